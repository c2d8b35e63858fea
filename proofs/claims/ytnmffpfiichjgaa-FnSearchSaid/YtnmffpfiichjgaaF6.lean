-- Printed by a program; checked here.
import Derived.Test.YtnmffpfiichjgaaF0
import Derived.Test.YtnmffpfiichjgaaF1
import Derived.Test.YtnmffpfiichjgaaF2
import Derived.Test.YtnmffpfiichjgaaF3
import Derived.Test.YtnmffpfiichjgaaF4
import Derived.Test.YtnmffpfiichjgaaF5
namespace Go.Proofs.Ytnmffpfiichjgaa.F
open Go.RowKit Go.Proofs.YtnmffpfiichjgaaV.PrintWords Go.Proofs.YtnmffpfiichjgaaV.PrintLast Go.Proofs.YtnmffpfiichjgaaV.PrintMore Go.Proofs.YtnmffpfiichjgaaV.Sl Go.Proofs.YtnmffpfiichjgaaV.Rf
attribute [local go_sem] max2_int min2_int max_two min_two max_three min_three max_four min_four ia_opt it_opt
attribute [local go_sem] Try.underlying4 Try.underlying23 Try.underlying24 Try.underlying25 Try.underlying27 Try.underlying30 Try.underlying42 Try.underlying68 Try.underlying80 Try.underlying111
set_option maxHeartbeats 8000000
set_option maxRecDepth 100000
set_option linter.unusedVariables false
set_option linter.unusedSimpArgs false

attribute [local go_sem high] eqA42
/-! ### impl_smallestOf: function 104 -/
def impl_smallestOf.l0:Nat→Int→Int→Int→List (S42)→List Int→List Int→Int→Int→List (S42)→Option (Int × Int × (List (S42)) × Bool)
 | 0,_,_,_,_,_,_,_,_,_=>none
 | k + 1,x25,x902000,x902001,x902002,x902003,x902004,x904000,x904001,x904002=>(impl_boardsTried.f k x902000 x902001 x902002 x902003 x902004).bind fun t904=>(if x25 < t904 then ((impl_boardOf.f k x902000 x902001 x902002 x902003 x902004 x25).bind fun bt905=>((impl_hasEnds.f k x902000 x902001 x902002 x902003 x902004 bt905.1 bt905.2.1 bt905.2.2).bind fun t911=>(if t911 = true then (if x904000 = 0 then (impl_smallestOf.l0 k (wrap64 (x25 + 1)) x902000 x902001 x902002 x902003 x902004 bt905.1 bt905.2.1 bt905.2.2) else ((impl_partsOf.f k bt905.1 bt905.2.1 bt905.2.2).bind fun t912=>((impl_partsOf.f k x904000 x904001 x904002).bind fun t913=>(if t912 < t913 then (impl_smallestOf.l0 k (wrap64 (x25 + 1)) x902000 x902001 x902002 x902003 x902004 bt905.1 bt905.2.1 bt905.2.2) else (impl_smallestOf.l0 k (wrap64 (x25 + 1)) x902000 x902001 x902002 x902003 x902004 x904000 x904001 x904002))))) else (impl_smallestOf.l0 k (wrap64 (x25 + 1)) x902000 x902001 x902002 x902003 x902004 x904000 x904001 x904002)))) else (some (x904000,x904001,x904002,decide (x904000 > 0))))
def impl_smallestOf.f (k:Nat) (a0_0:Int) (a0_1:Int) (l0_2:List (S42)) (l0_3:List Int) (l0_4:List Int):Option (Int × Int × (List (S42)) × Bool):=impl_smallestOf.l0 k 0 a0_0 a0_1 l0_2 l0_3 l0_4 0 0 ([]:List (S42))
def smallStep (k:Nat) (s:Int × Int × List S42) (r c:Int) (xs:List S42):Option ((Int × Int × List S42) × Bool):=if s.1 = 0 then some ((r,c,xs),true) else (impl_partsOf.f k r c xs).bind fun t=>(impl_partsOf.f k s.1 s.2.1 s.2.2).bind fun u=>if t < u then some ((r,c,xs),true) else some (s,true)
theorem small_fold (r c:Int) (p:List S42) (e ns:List Int):∀ (k:Nat) (n a b:Int) (xs:List S42) (q1 q2:Int) (q3:List S42) (q4:Bool),impl_smallestOf.l0 k n r c p e ns a b xs = some (q1,q2,q3,q4)→solFold smallStep r c p e ns k n (a,b,xs) = some ((q1,q2,q3),true)∧q4 = decide (q1 > 0)
 | 0,_,_,_,_,_,_,_,_,h=>by simp [impl_smallestOf.l0] at h
 | k + 1,n,a,b,xs,q1,q2,q3,q4,h=>by
  simp only [impl_smallestOf.l0] at h
  simp only [solFold]
  obtain ⟨t,h1,h⟩:=Option.bind_eq_some_iff.mp h
  rw [h1]
  simp only [Option.bind_some]
  split at h
  · rename_i ct
    rw [if_pos ct]
    obtain ⟨b2,h2,h⟩:=Option.bind_eq_some_iff.mp h
    obtain ⟨y,h3,h⟩:=Option.bind_eq_some_iff.mp h
    rw [h2]
    simp only [Option.bind_some]
    rw [h3]
    simp only [Option.bind_some]
    split at h
    · rename_i cy
      rw [if_pos cy]
      unfold smallStep
      split at h
      · rename_i c1
        rw [if_pos c1]
        simp only [Option.bind_some,if_true]
        exact small_fold r c p e ns k _ _ _ _ _ _ _ _ h
      · rename_i c1
        rw [if_neg c1]
        obtain ⟨t2,h5,h⟩:=Option.bind_eq_some_iff.mp h
        obtain ⟨u2,h6,h⟩:=Option.bind_eq_some_iff.mp h
        rw [h5]
        simp only [Option.bind_some]
        rw [h6]
        simp only [Option.bind_some]
        split at h
        · rename_i c2
          rw [if_pos c2]
          simp only [Option.bind_some,if_true]
          exact small_fold r c p e ns k _ _ _ _ _ _ _ _ h
        · rename_i c2
          rw [if_neg c2]
          simp only [Option.bind_some,if_true]
          exact small_fold r c p e ns k _ _ _ _ _ _ _ _ h
    · rename_i cy
      rw [if_neg cy]
      exact small_fold r c p e ns k _ _ _ _ _ _ _ _ h
  · rename_i ct
    rw [if_neg ct]
    simp only [Option.some.injEq,Prod.mk.injEq] at h
    obtain ⟨rfl,rfl,rfl,rfl⟩:=h
    exact ⟨rfl,rfl⟩
theorem impl_smallestOf.calls (k:Nat) (a0_0:Int) (a0_1:Int) (A0_2:Option Addr) (c0_2:Nat) (l0_2:List (S42)) (A0_3:Option Addr) (c0_3:Nat) (l0_3:List Int) (A0_4:Option Addr) (c0_4:Nat) (l0_4:List Int) (r1:Int) (r2:Int) (r3:List (S42)) (r4:Bool) (w:World) (hr0_2:Kd.C k42 w A0_2 l0_2.length l0_2) (hc0_2:l0_2.length ≤ c0_2) (hr0_3:Kd.C (Kd.int .i64) w A0_3 l0_3.length l0_3) (hc0_3:l0_3.length ≤ c0_3) (hr0_4:Kd.C (Kd.int .i64) w A0_4 l0_4.length l0_4) (hc0_4:l0_4.length ≤ c0_4) (h:impl_smallestOf.f k a0_0 a0_1 l0_2 l0_3 l0_4 = some (r1,r2,r3,r4)) :
  Calls Try.prog 104 #[.agg #[.int .i64 a0_0,.int .i64 a0_1,.slice A0_2 l0_2.length c0_2,.slice A0_3 l0_3.length c0_3,.slice A0_4 l0_4.length c0_4]] w fun e w'=>∃ v2_:Value,e = .returned (.tuple #[.agg #[.int .i64 r1,.int .i64 r2,v2_],.bool r4])∧Kd.R k42 42 w' w.heap.size (fun _=>True) v2_ r3∧Below w.heap.size w w':=by
 obtain ⟨hf,rfl⟩:=small_fold _ _ _ _ _ k _ _ _ _ _ _ _ _ h
 clear h
 have S:=St.init (w:=w) (dc k42_heap at42 hr0_2 hc0_2 (dc (Kd.heap_int .i64) (atI .i64) hr0_3 hc0_3 (dc (Kd.heap_int .i64) (atI .i64) hr0_4 hc0_4 dn)))
 have F:=S.fc
 refine (callsIn_wide (n:=9)).1 ?_
 refine callsIn_of_wp_marks Try.func104 rfl trivial ?_ rfl
 simp only [Try.ntmps104,List.size_toArray,List.length_cons,List.length_nil,Nat.reduceAdd,Nat.reduceSub,Array.replicate_succ,Array.replicate_zero,List.push_toArray,List.append_toArray,List.nil_append,List.cons_append]
 refine wpIn_wide.2 ?_
 go_wp2_with (first | ((with_reducible refine gd 1 rfl (L ?_));refine bo 1 (.agg #[_,_,_,_,_]) S ?_;clear S F;intro gb W S;have F:=S.fc) | ((with_reducible refine gd 2 rfl (L ?_));refine al 2 S zi30 ?_;clear S F;intro gr W S;have F:=S.fc) | ((with_reducible refine gd 4 rfl (L ?_));refine al 4 S zi30 ?_;clear S F;intro gB W S;have F:=S.fc) | ((with_reducible refine gs (t:=30) rfl (L ?_));(first | refine sb (.agg #[_,_,_]) S sz30 ?_ | refine ro (.agg #[_,_,_]) S sz30 ?_ (ho:=rfl) (hx:=rfl) (hy:=rfl));(clear S F;intro W S;have F:=S.fc)) | ((with_reducible refine gate_callee (f:=92) rfl (L ?_));refine cl (some 8) Try.func92 (impl_solutionsOf.calls _ _ _ _ _ _ _ _ _ _ _ W) (hargs:=by (simp only [ma_,mb_,mc_,F] <;> rfl)) (h:=?_);rintro e W2 ⟨gc,rfl,hgc,hge,hb⟩;refine ⟨_,rfl,?_⟩;have hl1:=blk_lt (bx_of S).1;replace S:=S.go hb;clear F hb;have F:=S.fc))
 (try simp only [Act.put,za_,zb_,zc_])
 have hB:=S.below
 have hn:=bx_all S 0 rfl
 have hr:=bx_all S 1 rfl
 have nr:=bx_ne S 1 0 rfl rfl
 have hlt:=blk_lt hn.1
 have hlr:=blk_lt hr.1
 have hlc:=blk_lt hgc
 have hne:gc ≠ gB:=by omega
 have hsz:=hB.size
 clear F S
 refine (wpIn_wide (n:=9)).1 ?_
 obtain ⟨I,hI⟩:∃ I:Int × Int × List S42→World→Prop,I = fun s W=>(∃ A c,bxr gB 30 [.int .i64 s.1,.int .i64 s.2.1,.slice A s.2.2.length c] W∧Kd.R k42 42 W (W2.heap.size + 2) (fun j=>W2.heap.size + 2 ≤ j) (.slice A s.2.2.length c) s.2.2)∧bxr gr 30 [.int .i64 0,.int .i64 0,.slice none 0 0] W∧Below w.heap.size w W:=⟨_,rfl⟩
 have hOw:Ow (W2.heap.size + 1) I:=by
  subst hI
  rintro s W W' ⟨⟨A,c,h1,h2⟩,h3,h4⟩ hg
  exact ⟨⟨A,c,bxr_grown h1 hg (by omega),Kd.R_step h2 (fun j hj hl=>hg.block j hl (by simp;omega))⟩,bxr_grown h3 hg (by omega),h4.grown hg h4.size (fun k e=>by cases e;omega)⟩
 refine wpIn_folds (σ:=Int × Int × List S42) (gf:=181) (lb:=#[.pointer (some ⟨gc,0,none⟩)]) (fin:=fun s' go=>((r1,r2,r3),true) = (s',go)) (s0:=(0,0,[])) rfl (by decide) rfl trivial (enters_ Try.func181 (by kernel_rfl) rfl)
  (fun Wl hb hz=>sols_folds smallStep _ k gc a0_0 a0_1 A0_2 c0_2 l0_2 A0_3 c0_3 l0_3 A0_4 c0_4 l0_4 (0,0,[]) ((r1,r2,r3),true) (fun j=>j = gB∨j = W2.heap.size + 1) (W2.heap.size + 2) Wl hz (fun W' hk=>?hq) hc0_2 hc0_3 hc0_4 hf)
  kept_trans (fun W o _=>kept_put _ _ (.inr rfl)) (fun s args W s' go hR=>by obtain ⟨_,_,_,_,_,_,_,rfl,_⟩:=hR;rfl)
  I (fun _ _ _=>False) hOw (fun _ _ _ _ h _=>h)
  (by subst hI;exact ⟨⟨none,0,hn.1,Kd.R_nil _ _ _ _ _⟩,hr.1,hB⟩)
  (fun s args a' s' go W=>I s W∧∃ gL R C xs A cap kk,smallStep kk s R C xs = some (s',go)∧gL ≠ gB∧gL ≠ W2.heap.size + 1∧bxr gL 30 [.int .i64 R,.int .i64 C,.slice A xs.length cap] W∧Kd.R k42 42 W (W2.heap.size + 2) (fun j=>W2.heap.size + 2 ≤ j) (.slice A xs.length cap) xs∧a' = { tmps:=#[.agg #[.int .i64 a0_0,.int .i64 a0_1,.slice A0_2 l0_2.length c0_2,.slice A0_3 l0_3.length c0_3,.slice A0_4 l0_4.length c0_4],.pointer (some ⟨gb,0,none⟩),.pointer (some ⟨gr,0,none⟩),.bool false,.pointer (some ⟨gB,0,none⟩),.pointer (some ⟨gL,0,none⟩),.agg #[.int .i64 0,.int .i64 0,.slice none 0 0],.agg #[.int .i64 a0_0,.int .i64 a0_1,.slice A0_2 l0_2.length c0_2,.slice A0_3 l0_3.length c0_3,.slice A0_4 l0_4.length c0_4],.func (.func 181) #[] #[.pointer (some ⟨gc,0,none⟩)],.agg #[.int .i64 R,.int .i64 C,.slice A xs.length cap],undef,undef,undef,undef,undef,undef,undef,undef,undef,undef,undef,undef,undef,undef,undef],defers:=[] }) ?hA ?assign ?body ?done ?stop
 case hq =>
  have key:∀ j,j < w.heap.size→W'.heap[j]? = w.heap[j]?:=fun j hj=>(hk.2 j (by have:=hb.size;omega) (by have:=hn.2;omega)).trans ((hb.block j (by omega)).trans (hB.block j hj))
  exact ⟨(hk.2 gc (by have:=hb.size;omega) (by omega)).trans ((hb.block gc hlc).trans hgc),k42_heap.C key hr0_2,(Kd.heap_int .i64).C key hr0_3,(Kd.heap_int .i64).C key hr0_4⟩
 case hA =>
  rintro s args a' s' go _ W W' ⟨hs,gL,R,C,xs,A,cap,kk,h0,h1,h2,h3,h4,h5⟩ hg
  exact ⟨hOw _ _ _ hs hg,gL,R,C,xs,A,cap,kk,h0,h1,h2,bxr_grown h3 hg h2,Kd.R_step h4 (fun j hj hl=>hg.block j hl (by simp;omega)),h5⟩
 case assign =>
  rintro l s args W s' go K hz hi ⟨kk,R,C,xs,hst,A,cap,rfl,hR⟩ hK
  have S:=St.init (w:=W) dn
  refine reg_in rfl (by rintro ⟨_,_,h⟩;exact h) ?_
  rw [zip1]
  simp only [za_,zb_,zc_]
  go_wp2_with (first | ((with_reducible refine gd 5 rfl (L ?_));refine al 5 S zi30 ?_;clear S;intro gL W S) | ((with_reducible refine gs (t:=30) rfl (L ?_));(first | refine sb (.agg #[_,_,_]) S sz30 ?_ | refine ro (.agg #[_,_,_]) S sz30 ?_ (ho:=rfl) (hx:=rfl) (hy:=rfl));clear S;intro W S))
  have hg:=bx_of S
  refine hK _ _ (keeps_below S.below) (Kept.of_below S.below _) ⟨hOw.below hi S.below,gL,R,C,xs,A,cap,kk,hst,?_,?_,hg.1,Kd.R_mono (Kd.R_bound (Kd.R_below hR S.below)) (fun j hj=>hj.2.1),rfl⟩
  · subst hI;obtain ⟨⟨_,_,h1,_⟩,_⟩:=hi;have:=blk_lt h1;omega
  · omega
 case body =>
  subst hI
  rintro l s args a' W s' go ⟨⟨⟨Ab,cb,h1,hRb⟩,h2,hB3⟩,gL,R,C,xs,A,cap,kk,hst,n1,n2,hb,hR,rfl⟩
  obtain ⟨W_,hW_⟩:∃ W_,W_ = W:=⟨W,rfl⟩
  rw [← hW_] at h1 hRb h2 hB3 hb hR ⊢
  clear hW_
  have S:=St_box hB3 hn.2 h1 (dbx hb n1 (dro at42 hR (fun j hj e=>by omega) (dro at42 hRb (fun j hj e=>by omega) dn)))
  have F:=S.fc
  have fin:∀ {V:World} {G:List Pc} {D:List (World→Prop)} (s2:Int × Int × List S42) (A2:Option Addr) (c2:Nat),s' = s2→go = true→St w W_ (fun j=>j = gB) D V (box gB 30 [.int .i64 s2.1,.int .i64 s2.2.1,.slice A2 s2.2.2.length c2] :: G)→Kd.R k42 42 W_ (W2.heap.size + 2) (fun j=>W2.heap.size + 2 ≤ j) (.slice A2 s2.2.2.length c2) s2.2.2→fpost W2.heap.size (fun W W'=>Kept W W' fun j=>j = gB∨j = W2.heap.size + 1) (fun s W=>(∃ A c,bxr gB 30 [.int .i64 s.1,.int .i64 s.2.1,.slice A s.2.2.length c] W∧Kd.R k42 42 W (W2.heap.size + 2) (fun j=>W2.heap.size + 2 ≤ j) (.slice A s.2.2.length c) s.2.2)∧bxr gr 30 [.int .i64 0,.int .i64 0,.slice none 0 0] W∧Below w.heap.size w W) (fun _ _ _=>False) s' go W_ .normal { tmps:=#[],defers:=[] } V:=fun s2 A2 c2 e1 e2 S hR2=>⟨e2,keeps_of h1 S.kept,S.kept.mono (fun _ h=>.inl h),e1 ▸ ⟨A2,c2,bx_at S 0 rfl,Kd.R_step hR2 (fun j hj hl=>S.kept.2 j hl (by omega))⟩,(S.kept.2 _ (blk_lt h2) nr).trans h2,S.below⟩
  refine wpIn_block ?_
  apply wpIn_seq_k
  intro K hK
  unfold smallStep at hst
  split at hst
  · rename_i c1
    cases hst
    refine rgI S [(0,0),(1,1),(0,2),(0,3),(0,4),(0,5),(0,6),(0,7),(0,8),(0,9)] [] rfl (by rintro ⟨_,_,h⟩;exact h) (by kernel_rfl) (by kernel_rfl) (fun _ d _ _ _ h=>by cases d <;> exact h) ?_
    clear S F;intro W S;have S0:=S;have F:=S.fc
    repeat (first | (refine q0 (h:=?_)) | (refine q1 S0 (h:=?_)) | (refine q0n (h:=?_)) | (refine q1n S0 (h:=?_)))
    refine oz ?_
    refine hK _ _ (wpIn_cond_split rfl (fun ht=>?_) (fun ht=>?_))
    · clear ht
      refine reg_in rfl (by rintro ⟨_,_,h⟩;exact h) ?_
      go_wp2_with ((with_reducible refine gs (t:=30) rfl (L ?_));(first | refine sb (.agg #[_,_,_]) S sz30 ?_ | refine ro (.agg #[_,_,_]) S sz30 ?_ (ho:=rfl) (hx:=rfl) (hy:=rfl));(clear S F;intro W S;have F:=S.fc))
      exact fin (R,C,xs) A cap (by first | rfl | trivial) (by first | rfl | trivial) S hR
    · cases ht
  · rename_i c1
    replace c1:=cne c1
    obtain ⟨t,A32,hst⟩:=Option.bind_eq_some_iff.mp hst
    obtain ⟨u,A33,hst⟩:=Option.bind_eq_some_iff.mp hst
    refine rgI S [(0,0),(1,1),(0,2),(0,3),(1,4),(1,6),(2,5),(2,7),(0,8),(0,9)] [] rfl (by rintro ⟨_,_,h⟩;exact h) (by kernel_rfl) (by kernel_rfl) (fun _ d _ _ _ h=>by cases d <;> exact h) ?_
    clear S F;intro W S;have S0:=S;have F:=S.fc
    repeat (first | (refine q0 (h:=?_)) | (refine q1 S0 (h:=?_)) | (refine q0n (h:=?_)) | (refine q1n S0 (h:=?_)))
    refine lk2 (by rfl) (by exact (Eq.refl true)) ?_;refine cl (some 15) Try.func127 (impl_partsOf.calls _ _ _ _ _ _ _ _ S.c S.n A32) (hargs:=by (simp only [ma_,mb_,mc_,F] <;> rfl)) (h:=?_);rintro e W ⟨rfl,hb⟩;refine ⟨_,rfl,?_⟩;replace S:=S.go hb;clear F hb;have F:=S.fc
    clear S0;have S0:=S;refine ⟨S0,?_⟩
    refine lk2 (by rfl) (by exact (Eq.refl true)) ?_;refine cl (some 17) Try.func127 (impl_partsOf.calls _ _ _ _ _ _ _ _ S.c S.n A33) (hargs:=by (simp only [ma_,mb_,mc_,F] <;> rfl)) (h:=?_);rintro e W ⟨rfl,hb⟩;refine ⟨_,rfl,?_⟩;replace S:=S.go hb;clear F hb;have F:=S.fc
    clear S0;have S0:=S;refine ⟨S0,?_⟩
    repeat (first | (refine q0 (h:=?_)) | (refine q1 S0 (h:=?_)) | (refine q0n (h:=?_)) | (refine q1n S0 (h:=?_)))
    refine oz ?_
    refine hK _ _ (wpIn_cond_split rfl (fun ht=>?_) (fun ht=>?_))
    · rw [if_pos (by simpa using ht)] at hst
      cases hst
      clear ht
      refine reg_in rfl (by rintro ⟨_,_,h⟩;exact h) ?_
      go_wp2_with ((with_reducible refine gs (t:=30) rfl (L ?_));(first | refine sb (.agg #[_,_,_]) S sz30 ?_ | refine ro (.agg #[_,_,_]) S sz30 ?_ (ho:=rfl) (hx:=rfl) (hy:=rfl));(clear S F;intro W S;have F:=S.fc))
      exact fin (R,C,xs) A cap (by first | rfl | trivial) (by first | rfl | trivial) S hR
    · rw [if_neg (by simpa using ht)] at hst
      cases hst
      exact wpIn_skip (fin _ Ab cb rfl rfl S hRb)
 case done =>
  subst hI
  rintro s' W hs ⟨⟨Ab,cb,h1,hRb⟩,h2,hB3⟩ hD
  cases hs
  have hDl:=blk_lt hD
  have S:=St_box (g:=gr) hB3 hr.2 h2 (dbx h1 (fun e=>nr e.symm) (dro at42 hRb (fun j hj e=>by omega) dn))
  have F:=S.fc
  go_wp2_with ((with_reducible refine gs (t:=30) rfl (L ?_));(first | refine sb (.agg #[_,_,_]) S sz30 ?_ | refine ro (.agg #[_,_,_]) S sz30 ?_ (ho:=rfl) (hx:=rfl) (hy:=rfl));(clear S F;intro W S;have F:=S.fc))
  refine wp_calm ?_
  refine rgP S (fun _ S=>(S.pm [])) [(0,1),(1,0),(1,2),(0,3),(2,4),(0,5)] [] (by kernel_rfl) (by kernel_rfl) (fun _ d _ _ _ h=>by cases d <;> exact h) ?_
  clear S F;intro W S;have S0:=(S.pm []);have F:=S.fc
  repeat (first | (refine q0 (h:=?_)) | (refine q1 S0 (h:=?_)) | (refine q0n (h:=?_)) | (refine q1n S0 (h:=?_)))
  refine lk2 (by rfl) (by exact (Eq.refl true)) ?_;(first | refine sb (.agg #[_,_,_]) S sz30 ?_ | refine ro (.agg #[_,_,_]) S sz30 ?_ (ho:=rfl) (hx:=rfl) (hy:=rfl));(clear S F;intro W S;have F:=S.fc)
  clear S0;have S0:=(S.pm []);refine ⟨S0,?_⟩
  repeat (first | (refine q0 (h:=?_)) | (refine q1 S0 (h:=?_)) | (refine q0n (h:=?_)) | (refine q1n S0 (h:=?_)))
  refine oz ?_
  go_wp2
  have hD2:=(S.kept.2 _ hDl (by omega)).trans hD
  refine ⟨by simp,.inl ⟨_,_,rfl,run_takeDeferred hD2,?_⟩⟩
  have hg9:=grownBy_putObj' W W2.heap.size (.deferred none)
  exact ⟨_,results_ct rfl _ _ gr 30 #[.int .i64 r1,.int .i64 r2,.slice Ab r3.length cb] (0,0) _ rfl (bxr_grown (bx_at S 0 rfl) hg9 (by omega)) Try.underlying30 rfl (by kernel_rfl),_,rfl,Kd.R_lower (Kd.R_mono (Kd.R_step hRb (fun j hj hl=>(hg9.block j (Nat.lt_of_lt_of_le hl S.kept.1) (by simp;omega)).trans (S.kept.2 j hl (by omega)))) (fun _ _=>trivial)) (by omega),S.below.grown hg9 S.below.size (fun k e=>by cases e;exact hsz)⟩
 case stop=>exact fun c s' W _ h _=>h.elim

/-! ### impl_SmallestBoard: function 44 -/
def impl_SmallestBoard.f (k:Nat) (a0_0:Int) (a0_1:Int) (l0_2:List (S42)) (l0_3:List Int) (l0_4:List Int):Option (Int × Int × (List (S42)) × Bool):=(impl_IsChallenge.f k a0_0 a0_1 l0_2 l0_3 l0_4).bind fun t916=>(if t916 = true then ((impl_smallestOf.f k a0_0 a0_1 l0_2 l0_3 l0_4).bind fun bt917=>(some (bt917.1,bt917.2.1,bt917.2.2.1,bt917.2.2.2))) else (some (0,0,([]:List (S42)),false)))
theorem impl_SmallestBoard.calls (k:Nat) (a0_0:Int) (a0_1:Int) (A0_2:Option Addr) (c0_2:Nat) (l0_2:List (S42)) (A0_3:Option Addr) (c0_3:Nat) (l0_3:List Int) (A0_4:Option Addr) (c0_4:Nat) (l0_4:List Int) (r1:Int) (r2:Int) (r3:List (S42)) (r4:Bool) (w:World) (hr0_2:Kd.C k42 w A0_2 l0_2.length l0_2) (hc0_2:l0_2.length ≤ c0_2) (hr0_3:Kd.C (Kd.int .i64) w A0_3 l0_3.length l0_3) (hc0_3:l0_3.length ≤ c0_3) (hr0_4:Kd.C (Kd.int .i64) w A0_4 l0_4.length l0_4) (hc0_4:l0_4.length ≤ c0_4) (h:impl_SmallestBoard.f k a0_0 a0_1 l0_2 l0_3 l0_4 = some (r1,r2,r3,r4)) :
    Calls Try.prog 44 #[.agg #[.int .i64 a0_0,.int .i64 a0_1,.slice A0_2 l0_2.length c0_2,.slice A0_3 l0_3.length c0_3,.slice A0_4 l0_4.length c0_4]] w fun e w'=>∃ v2_:Value,e = .returned (.tuple #[.agg #[.int .i64 r1,.int .i64 r2,v2_],.bool r4])∧Kd.R k42 42 w' w.heap.size (fun _=>True) v2_ r3∧Below w.heap.size w w':=by
 have S:=St.init (w:=w) (dc k42_heap at42 hr0_2 hc0_2 (dc (Kd.heap_int .i64) (atI .i64) hr0_3 hc0_3 (dc (Kd.heap_int .i64) (atI .i64) hr0_4 hc0_4 dn)))
 clear hr0_2 hc0_2 hr0_3 hc0_3 hr0_4 hc0_4
 have F:=S.fc
 have H:=h;clear h;unfold impl_SmallestBoard.f at H
 replace H:=Option.bind_eq_some_iff.mp H;obtain ⟨t916,A2,H⟩:=H;(try dsimp only at H)
 replace H:=sp_ H;rcases H with ⟨c3,H⟩ | ⟨c3,H⟩
 · skip
   subst c3
   replace H:=Option.bind_eq_some_iff.mp H;obtain ⟨⟨t917,t918,t919,t922⟩,A4,H⟩:=H;(try dsimp only at H)
   simp only [Option.some.injEq,Prod.mk.injEq] at H
   obtain ⟨rfl,rfl,rfl,rfl⟩:=H
   go_enter Try.func44,Try.ntmps44
   go_wp2_with (first | ((with_reducible refine gd 1 rfl (L ?_));refine bo 1 (.agg #[_,_,_,_,_]) S ?_;clear S F;intro gb914 W S;have F:=S.fc) | ((with_reducible refine gd 2 rfl (L ?_));refine al 2 S zi30 ?_;clear S F;intro gb915 W S;have F:=S.fc) | ((with_reducible refine gate_callee (f:=37) rfl (L ?_));refine cl (some 5) Try.func37 (impl_IsChallenge.calls _ _ _ _ _ _ _ _ _ _ _ _ _ _ S.c S.n S.c S.n S.c S.n A2) (hargs:=by (simp only [ma_,mb_,mc_,F] <;> rfl)) (h:=?_);rintro e W ⟨rfl,hb⟩;refine ⟨_,rfl,?_⟩;replace S:=S.go hb;clear F hb;have F:=S.fc) | ((with_reducible refine gate_callee (f:=104) rfl (L ?_));refine cl (some 9) Try.func104 (impl_smallestOf.calls _ _ _ _ _ _ _ _ _ _ _ _ _ _ _ _ _ S.c S.n S.c S.n S.c S.n A4) (hargs:=by (simp only [ma_,mb_,mc_,F] <;> rfl)) (h:=?_);rintro e W ⟨v920,rfl,ho0,hb⟩;refine ⟨_,rfl,?_⟩;replace S:=S.got at42 hb ho0;obtain ⟨At919,ct919,rfl,S⟩:=S;clear F hb ho0;have F:=S.fc) | ((with_reducible refine gs (t:=30) rfl (L ?_));refine sb (.agg #[_,_,_]) S sz30 ?_;(clear S F;intro W S;have F:=S.fc)))
   refine bodyPost_ret (results_ct rfl _ _ gb915 30 #[.int .i64 t917,.int .i64 t918,.slice At919 t919.length ct919] (0,0) _ rfl S.hb Try.underlying30 rfl (by kernel_rfl)) rfl ?_
   exact ⟨_,(by first | rfl | (simp [e0_,e1_] <;> rfl) | (simp [*,e0_,e1_] <;> rfl)),(by first | exact S.r | exact Kd.R_nil _ _ _ _ _),S.below⟩
 · skip
   replace c3:=cbf c3;subst c3
   simp only [Option.some.injEq,Prod.mk.injEq] at H
   obtain ⟨rfl,rfl,rfl,rfl⟩:=H
   go_enter Try.func44,Try.ntmps44
   go_wp2_with (first | ((with_reducible refine gd 1 rfl (L ?_));refine bo 1 (.agg #[_,_,_,_,_]) S ?_;clear S F;intro gb914 W S;have F:=S.fc) | ((with_reducible refine gd 2 rfl (L ?_));refine al 2 S zi30 ?_;clear S F;intro gb915 W S;have F:=S.fc) | ((with_reducible refine gate_callee (f:=37) rfl (L ?_));refine cl (some 5) Try.func37 (impl_IsChallenge.calls _ _ _ _ _ _ _ _ _ _ _ _ _ _ S.c S.n S.c S.n S.c S.n A2) (hargs:=by (simp only [ma_,mb_,mc_,F] <;> rfl)) (h:=?_);rintro e W ⟨rfl,hb⟩;refine ⟨_,rfl,?_⟩;replace S:=S.go hb;clear F hb;have F:=S.fc) | ((with_reducible refine gs (t:=30) rfl (L ?_));refine sb (.agg #[_,_,_]) S sz30 ?_;(clear S F;intro W S;have F:=S.fc)))
   refine bodyPost_ret (results_ct rfl _ _ gb915 30 #[.int .i64 0,.int .i64 0,.slice none 0 0] (0,0) _ rfl S.hb Try.underlying30 rfl (by kernel_rfl)) rfl ?_
   exact ⟨_,(by first | rfl | (simp [e0_,e1_] <;> rfl) | (simp [*,e0_,e1_] <;> rfl)),(by first | exact S.r | exact Kd.R_nil _ _ _ _ _),S.below⟩

/-! ### spec_SmallestBoard: function 45 -/
def spec_SmallestBoard.f (k:Nat) (a0_0:Int) (a0_1:Int) (l0_2:List (S42)) (l0_3:List Int) (l0_4:List Int):Option (Int × Int × (List (S42)) × Bool):=(spec_syGood.f k a0_0 a0_1 l0_2 l0_3 l0_4).bind fun t925=>(if t925 = true then ((spec_syCount.f k a0_0 a0_1 l0_2 l0_3 l0_4).bind fun bt926=>(if bt926.2.2 < 0 then (some (0,0,([]:List (S42)),false)) else ((spec_syBoard.f k a0_0 a0_1 l0_2 l0_3 l0_4 bt926.2.2).bind fun bt931=>(some (bt931.1,bt931.2.1,bt931.2.2,true))))) else (some (0,0,([]:List (S42)),false)))
theorem spec_SmallestBoard.calls (k:Nat) (a0_0:Int) (a0_1:Int) (A0_2:Option Addr) (c0_2:Nat) (l0_2:List (S42)) (A0_3:Option Addr) (c0_3:Nat) (l0_3:List Int) (A0_4:Option Addr) (c0_4:Nat) (l0_4:List Int) (r1:Int) (r2:Int) (r3:List (S42)) (r4:Bool) (w:World) (hr0_2:Kd.C k42 w A0_2 l0_2.length l0_2) (hc0_2:l0_2.length ≤ c0_2) (hr0_3:Kd.C (Kd.int .i64) w A0_3 l0_3.length l0_3) (hc0_3:l0_3.length ≤ c0_3) (hr0_4:Kd.C (Kd.int .i64) w A0_4 l0_4.length l0_4) (hc0_4:l0_4.length ≤ c0_4) (h:spec_SmallestBoard.f k a0_0 a0_1 l0_2 l0_3 l0_4 = some (r1,r2,r3,r4)) :
    Calls Try.prog 45 #[.agg #[.int .i64 a0_0,.int .i64 a0_1,.slice A0_2 l0_2.length c0_2,.slice A0_3 l0_3.length c0_3,.slice A0_4 l0_4.length c0_4]] w fun e w'=>∃ v2_:Value,e = .returned (.tuple #[.agg #[.int .i64 r1,.int .i64 r2,v2_],.bool r4])∧Kd.R k42 42 w' w.heap.size (fun _=>True) v2_ r3∧Below w.heap.size w w':=by
 have S:=St.init (w:=w) (dc k42_heap at42 hr0_2 hc0_2 (dc (Kd.heap_int .i64) (atI .i64) hr0_3 hc0_3 (dc (Kd.heap_int .i64) (atI .i64) hr0_4 hc0_4 dn)))
 clear hr0_2 hc0_2 hr0_3 hc0_3 hr0_4 hc0_4
 have F:=S.fc
 have H:=h;clear h;unfold spec_SmallestBoard.f at H
 replace H:=Option.bind_eq_some_iff.mp H;obtain ⟨t925,A2,H⟩:=H;(try dsimp only at H)
 replace H:=sp_ H;rcases H with ⟨c3,H⟩ | ⟨c3,H⟩
 · skip
   subst c3
   replace H:=Option.bind_eq_some_iff.mp H;obtain ⟨⟨t926,t929,t930⟩,A4,H⟩:=H;(try dsimp only at H)
   replace H:=sp_ H;rcases H with ⟨c5,H⟩ | ⟨c5,H⟩
   · skip
     simp only [Option.some.injEq,Prod.mk.injEq] at H
     obtain ⟨rfl,rfl,rfl,rfl⟩:=H
     go_enter Try.func45,Try.ntmps45
     go_wp2_with (first | ((with_reducible refine gd 1 rfl (L ?_));refine bo 1 (.agg #[_,_,_,_,_]) S ?_;clear S F;intro gb923 W S;have F:=S.fc) | ((with_reducible refine gd 2 rfl (L ?_));refine al 2 S zi30 ?_;clear S F;intro gb924 W S;have F:=S.fc) | ((with_reducible refine gate_callee (f:=93) rfl (L ?_));refine cl (some 8) Try.func93 (spec_syGood.calls _ _ _ _ _ _ _ _ _ _ _ _ _ _ S.c S.n S.c S.n S.c S.n A2) (hargs:=by (simp only [ma_,mb_,mc_,F] <;> rfl)) (h:=?_);rintro e W ⟨rfl,hb⟩;refine ⟨_,rfl,?_⟩;replace S:=S.go hb;clear F hb;have F:=S.fc) | ((with_reducible refine gate_callee (f:=94) rfl (L ?_));refine cl (some 13) Try.func94 (spec_syCount.calls _ _ _ _ _ _ _ _ _ _ _ _ _ _ _ _ S.c S.n S.c S.n S.c S.n A4) (hargs:=by (simp only [ma_,mb_,mc_,F] <;> rfl)) (h:=?_);rintro e W ⟨v927,rfl,ho0,hb⟩;refine ⟨_,rfl,?_⟩;replace S:=S.got (atI .i64) hb ho0;obtain ⟨At926,ct926,rfl,S⟩:=S;clear F hb ho0;have F:=S.fc) | ((with_reducible refine gs (t:=30) rfl (L ?_));refine sb (.agg #[_,_,_]) S sz30 ?_;(clear S F;intro W S;have F:=S.fc)))
     refine bodyPost_ret (results_ct rfl _ _ gb924 30 #[.int .i64 0,.int .i64 0,.slice none 0 0] (0,0) _ rfl S.hb Try.underlying30 rfl (by kernel_rfl)) rfl ?_
     exact ⟨_,(by first | rfl | (simp [e0_,e1_] <;> rfl) | (simp [*,e0_,e1_] <;> rfl)),(by first | exact S.r | exact Kd.R_nil _ _ _ _ _),S.below⟩
   · skip
     replace H:=Option.bind_eq_some_iff.mp H;obtain ⟨⟨t931,t932,t933⟩,A14,H⟩:=H;(try dsimp only at H)
     simp only [Option.some.injEq,Prod.mk.injEq] at H
     obtain ⟨rfl,rfl,rfl,rfl⟩:=H
     go_enter Try.func45,Try.ntmps45
     go_wp2_with (first | ((with_reducible refine gd 1 rfl (L ?_));refine bo 1 (.agg #[_,_,_,_,_]) S ?_;clear S F;intro gb923 W S;have F:=S.fc) | ((with_reducible refine gd 2 rfl (L ?_));refine al 2 S zi30 ?_;clear S F;intro gb924 W S;have F:=S.fc) | ((with_reducible refine gate_callee (f:=93) rfl (L ?_));refine cl (some 8) Try.func93 (spec_syGood.calls _ _ _ _ _ _ _ _ _ _ _ _ _ _ S.c S.n S.c S.n S.c S.n A2) (hargs:=by (simp only [ma_,mb_,mc_,F] <;> rfl)) (h:=?_);rintro e W ⟨rfl,hb⟩;refine ⟨_,rfl,?_⟩;replace S:=S.go hb;clear F hb;have F:=S.fc) | ((with_reducible refine gate_callee (f:=94) rfl (L ?_));refine cl (some 13) Try.func94 (spec_syCount.calls _ _ _ _ _ _ _ _ _ _ _ _ _ _ _ _ S.c S.n S.c S.n S.c S.n A4) (hargs:=by (simp only [ma_,mb_,mc_,F] <;> rfl)) (h:=?_);rintro e W ⟨v927,rfl,ho0,hb⟩;refine ⟨_,rfl,?_⟩;replace S:=S.got (atI .i64) hb ho0;obtain ⟨At926,ct926,rfl,S⟩:=S;clear F hb ho0;have F:=S.fc) | ((with_reducible refine gate_callee (f:=95) rfl (L ?_));refine cl (some 22) Try.func95 (spec_syBoard.calls _ _ _ _ _ _ _ _ _ _ _ _ _ _ _ _ _ S.c S.n S.c S.n S.c S.n A14) (hargs:=by (simp only [ma_,mb_,mc_,F] <;> rfl)) (h:=?_);rintro e W ⟨v934,rfl,ho0,hb⟩;refine ⟨_,rfl,?_⟩;replace S:=S.got at42 hb ho0;obtain ⟨At933,ct933,rfl,S⟩:=S;clear F hb ho0;have F:=S.fc) | ((with_reducible refine gs (t:=30) rfl (L ?_));refine sb (.agg #[_,_,_]) S sz30 ?_;(clear S F;intro W S;have F:=S.fc)))
     refine bodyPost_ret (results_ct rfl _ _ gb924 30 #[.int .i64 t931,.int .i64 t932,.slice At933 t933.length ct933] (0,0) _ rfl S.hb Try.underlying30 rfl (by kernel_rfl)) rfl ?_
     exact ⟨_,(by first | rfl | (simp [e0_,e1_] <;> rfl) | (simp [*,e0_,e1_] <;> rfl)),(by first | exact S.r | exact Kd.R_nil _ _ _ _ _),S.below⟩
 · skip
   replace c3:=cbf c3;subst c3
   simp only [Option.some.injEq,Prod.mk.injEq] at H
   obtain ⟨rfl,rfl,rfl,rfl⟩:=H
   go_enter Try.func45,Try.ntmps45
   go_wp2_with (first | ((with_reducible refine gd 1 rfl (L ?_));refine bo 1 (.agg #[_,_,_,_,_]) S ?_;clear S F;intro gb923 W S;have F:=S.fc) | ((with_reducible refine gd 2 rfl (L ?_));refine al 2 S zi30 ?_;clear S F;intro gb924 W S;have F:=S.fc) | ((with_reducible refine gate_callee (f:=93) rfl (L ?_));refine cl (some 8) Try.func93 (spec_syGood.calls _ _ _ _ _ _ _ _ _ _ _ _ _ _ S.c S.n S.c S.n S.c S.n A2) (hargs:=by (simp only [ma_,mb_,mc_,F] <;> rfl)) (h:=?_);rintro e W ⟨rfl,hb⟩;refine ⟨_,rfl,?_⟩;replace S:=S.go hb;clear F hb;have F:=S.fc) | ((with_reducible refine gs (t:=30) rfl (L ?_));refine sb (.agg #[_,_,_]) S sz30 ?_;(clear S F;intro W S;have F:=S.fc)))
   refine bodyPost_ret (results_ct rfl _ _ gb924 30 #[.int .i64 0,.int .i64 0,.slice none 0 0] (0,0) _ rfl S.hb Try.underlying30 rfl (by kernel_rfl)) rfl ?_
   exact ⟨_,(by first | rfl | (simp [e0_,e1_] <;> rfl) | (simp [*,e0_,e1_] <;> rfl)),(by first | exact S.r | exact Kd.R_nil _ _ _ _ _),S.below⟩

/-! ### impl_FewestParts: function 46 -/
def impl_FewestParts.f (k:Nat) (a0_0:Int) (a0_1:Int) (l0_2:List (S42)) (l0_3:List Int) (l0_4:List Int):Option (Int × Bool):=(impl_IsChallenge.f k a0_0 a0_1 l0_2 l0_3 l0_4).bind fun t937=>(if t937 = true then ((impl_smallestOf.f k a0_0 a0_1 l0_2 l0_3 l0_4).bind fun bt938=>((impl_partsOf.f k bt938.1 bt938.2.1 bt938.2.2.1).bind fun t945=>(some (t945,bt938.2.2.2)))) else (some (0,false)))
theorem impl_FewestParts.calls (k:Nat) (a0_0:Int) (a0_1:Int) (A0_2:Option Addr) (c0_2:Nat) (l0_2:List (S42)) (A0_3:Option Addr) (c0_3:Nat) (l0_3:List Int) (A0_4:Option Addr) (c0_4:Nat) (l0_4:List Int) (r1:Int) (r2:Bool) (w:World) (hr0_2:Kd.C k42 w A0_2 l0_2.length l0_2) (hc0_2:l0_2.length ≤ c0_2) (hr0_3:Kd.C (Kd.int .i64) w A0_3 l0_3.length l0_3) (hc0_3:l0_3.length ≤ c0_3) (hr0_4:Kd.C (Kd.int .i64) w A0_4 l0_4.length l0_4) (hc0_4:l0_4.length ≤ c0_4) (h:impl_FewestParts.f k a0_0 a0_1 l0_2 l0_3 l0_4 = some (r1,r2)) :
    Calls Try.prog 46 #[.agg #[.int .i64 a0_0,.int .i64 a0_1,.slice A0_2 l0_2.length c0_2,.slice A0_3 l0_3.length c0_3,.slice A0_4 l0_4.length c0_4]] w fun e w'=>e = .returned (.tuple #[.int .i64 r1,.bool r2])∧Below w.heap.size w w':=by
 have S:=St.init (w:=w) (dc k42_heap at42 hr0_2 hc0_2 (dc (Kd.heap_int .i64) (atI .i64) hr0_3 hc0_3 (dc (Kd.heap_int .i64) (atI .i64) hr0_4 hc0_4 dn)))
 clear hr0_2 hc0_2 hr0_3 hc0_3 hr0_4 hc0_4
 have F:=S.fc
 have H:=h;clear h;unfold impl_FewestParts.f at H
 replace H:=Option.bind_eq_some_iff.mp H;obtain ⟨t937,A2,H⟩:=H;(try dsimp only at H)
 replace H:=sp_ H;rcases H with ⟨c3,H⟩ | ⟨c3,H⟩
 · skip
   subst c3
   replace H:=Option.bind_eq_some_iff.mp H;obtain ⟨⟨t938,t939,t940,t943⟩,A4,H⟩:=H;(try dsimp only at H)
   replace H:=Option.bind_eq_some_iff.mp H;obtain ⟨t945,A5,H⟩:=H;(try dsimp only at H)
   simp only [Option.some.injEq,Prod.mk.injEq] at H
   obtain ⟨rfl,rfl⟩:=H
   go_enter Try.func46,Try.ntmps46
   go_wp2_with (first | ((with_reducible refine gd 1 rfl (L ?_));refine bo 1 (.agg #[_,_,_,_,_]) S ?_;clear S F;intro gb936 W S;have F:=S.fc) | ((with_reducible refine gate_callee (f:=37) rfl (L ?_));refine cl (some 7) Try.func37 (impl_IsChallenge.calls _ _ _ _ _ _ _ _ _ _ _ _ _ _ S.c S.n S.c S.n S.c S.n A2) (hargs:=by (simp only [ma_,mb_,mc_,F] <;> rfl)) (h:=?_);rintro e W ⟨rfl,hb⟩;refine ⟨_,rfl,?_⟩;replace S:=S.go hb;clear F hb;have F:=S.fc) | ((with_reducible refine gate_callee (f:=104) rfl (L ?_));refine cl (some 11) Try.func104 (impl_smallestOf.calls _ _ _ _ _ _ _ _ _ _ _ _ _ _ _ _ _ S.c S.n S.c S.n S.c S.n A4) (hargs:=by (simp only [ma_,mb_,mc_,F] <;> rfl)) (h:=?_);rintro e W ⟨v941,rfl,ho0,hb⟩;refine ⟨_,rfl,?_⟩;replace S:=S.got at42 hb ho0;obtain ⟨At940,ct940,rfl,S⟩:=S;clear F hb ho0;have F:=S.fc) | ((with_reducible refine gd 4 rfl (L ?_));refine al 4 S zi30 ?_;clear S F;intro gb944 W S;have F:=S.fc) | ((with_reducible refine gate_callee (f:=127) rfl (L ?_));refine cl (some 15) Try.func127 (impl_partsOf.calls _ _ _ _ _ _ _ _ S.c S.n A5) (hargs:=by (simp only [ma_,mb_,mc_,F] <;> rfl)) (h:=?_);rintro e W ⟨rfl,hb⟩;refine ⟨_,rfl,?_⟩;replace S:=S.go hb;clear F hb;have F:=S.fc) | ((with_reducible refine gs (t:=30) rfl (L ?_));refine sb (.agg #[_,_,_]) S sz30 ?_;(clear S F;intro W S;have F:=S.fc)))
   go_ret2
   exact ⟨(by first | rfl | (simp [e0_,e1_] <;> rfl) | (simp [*,e0_,e1_] <;> rfl)),S.below⟩
 · skip
   replace c3:=cbf c3;subst c3
   simp only [Option.some.injEq,Prod.mk.injEq] at H
   obtain ⟨rfl,rfl⟩:=H
   go_enter Try.func46,Try.ntmps46
   go_wp2_with (first | ((with_reducible refine gd 1 rfl (L ?_));refine bo 1 (.agg #[_,_,_,_,_]) S ?_;clear S F;intro gb936 W S;have F:=S.fc) | ((with_reducible refine gate_callee (f:=37) rfl (L ?_));refine cl (some 7) Try.func37 (impl_IsChallenge.calls _ _ _ _ _ _ _ _ _ _ _ _ _ _ S.c S.n S.c S.n S.c S.n A2) (hargs:=by (simp only [ma_,mb_,mc_,F] <;> rfl)) (h:=?_);rintro e W ⟨rfl,hb⟩;refine ⟨_,rfl,?_⟩;replace S:=S.go hb;clear F hb;have F:=S.fc))
   go_ret2
   exact ⟨(by first | rfl | (simp [e0_,e1_] <;> rfl) | (simp [*,e0_,e1_] <;> rfl)),S.below⟩

/-! ### spec_FewestParts: function 47 -/
def spec_FewestParts.f (k:Nat) (a0_0:Int) (a0_1:Int) (l0_2:List (S42)) (l0_3:List Int) (l0_4:List Int):Option (Int × Bool):=(spec_SmallestBoard.f k a0_0 a0_1 l0_2 l0_3 l0_4).bind fun bt947=>(if bt947.2.2.2 = true then ((spec_sySize.f k bt947.1 bt947.2.1 bt947.2.2.1).bind fun t954=>(some (t954,true))) else (some (0,false)))
theorem spec_FewestParts.calls (k:Nat) (a0_0:Int) (a0_1:Int) (A0_2:Option Addr) (c0_2:Nat) (l0_2:List (S42)) (A0_3:Option Addr) (c0_3:Nat) (l0_3:List Int) (A0_4:Option Addr) (c0_4:Nat) (l0_4:List Int) (r1:Int) (r2:Bool) (w:World) (hr0_2:Kd.C k42 w A0_2 l0_2.length l0_2) (hc0_2:l0_2.length ≤ c0_2) (hr0_3:Kd.C (Kd.int .i64) w A0_3 l0_3.length l0_3) (hc0_3:l0_3.length ≤ c0_3) (hr0_4:Kd.C (Kd.int .i64) w A0_4 l0_4.length l0_4) (hc0_4:l0_4.length ≤ c0_4) (h:spec_FewestParts.f k a0_0 a0_1 l0_2 l0_3 l0_4 = some (r1,r2)) :
    Calls Try.prog 47 #[.agg #[.int .i64 a0_0,.int .i64 a0_1,.slice A0_2 l0_2.length c0_2,.slice A0_3 l0_3.length c0_3,.slice A0_4 l0_4.length c0_4]] w fun e w'=>e = .returned (.tuple #[.int .i64 r1,.bool r2])∧Below w.heap.size w w':=by
 have S:=St.init (w:=w) (dc k42_heap at42 hr0_2 hc0_2 (dc (Kd.heap_int .i64) (atI .i64) hr0_3 hc0_3 (dc (Kd.heap_int .i64) (atI .i64) hr0_4 hc0_4 dn)))
 clear hr0_2 hc0_2 hr0_3 hc0_3 hr0_4 hc0_4
 have F:=S.fc
 have H:=h;clear h;unfold spec_FewestParts.f at H
 replace H:=Option.bind_eq_some_iff.mp H;obtain ⟨⟨t947,t948,t949,t952⟩,A2,H⟩:=H;(try dsimp only at H)
 replace H:=sp_ H;rcases H with ⟨c3,H⟩ | ⟨c3,H⟩
 · skip
   subst c3
   replace H:=Option.bind_eq_some_iff.mp H;obtain ⟨t954,A4,H⟩:=H;(try dsimp only at H)
   simp only [Option.some.injEq,Prod.mk.injEq] at H
   obtain ⟨rfl,rfl⟩:=H
   go_enter Try.func47,Try.ntmps47
   go_wp2_with (first | ((with_reducible refine gd 1 rfl (L ?_));refine bo 1 (.agg #[_,_,_,_,_]) S ?_;clear S F;intro gb946 W S;have F:=S.fc) | ((with_reducible refine gate_callee (f:=45) rfl (L ?_));refine cl (some 8) Try.func45 (spec_SmallestBoard.calls _ _ _ _ _ _ _ _ _ _ _ _ _ _ _ _ _ S.c S.n S.c S.n S.c S.n A2) (hargs:=by (simp only [ma_,mb_,mc_,F] <;> rfl)) (h:=?_);rintro e W ⟨v950,rfl,ho0,hb⟩;refine ⟨_,rfl,?_⟩;replace S:=S.got at42 hb ho0;obtain ⟨At949,ct949,rfl,S⟩:=S;clear F hb ho0;have F:=S.fc) | ((with_reducible refine gd 4 rfl (L ?_));refine al 4 S zi30 ?_;clear S F;intro gb953 W S;have F:=S.fc) | ((with_reducible refine gate_callee (f:=130) rfl (L ?_));refine cl (some 14) Try.func130 (spec_sySize.calls _ _ _ _ _ _ _ _ S.c S.n A4) (hargs:=by (simp only [ma_,mb_,mc_,F] <;> rfl)) (h:=?_);rintro e W ⟨rfl,hb⟩;refine ⟨_,rfl,?_⟩;replace S:=S.go hb;clear F hb;have F:=S.fc) | ((with_reducible refine gs (t:=30) rfl (L ?_));refine sb (.agg #[_,_,_]) S sz30 ?_;(clear S F;intro W S;have F:=S.fc)))
   go_ret2
   exact ⟨(by first | rfl | (simp [e0_,e1_] <;> rfl) | (simp [*,e0_,e1_] <;> rfl)),S.below⟩
 · skip
   replace c3:=cbf c3;subst c3
   simp only [Option.some.injEq,Prod.mk.injEq] at H
   obtain ⟨rfl,rfl⟩:=H
   go_enter Try.func47,Try.ntmps47
   go_wp2_with (first | ((with_reducible refine gd 1 rfl (L ?_));refine bo 1 (.agg #[_,_,_,_,_]) S ?_;clear S F;intro gb946 W S;have F:=S.fc) | ((with_reducible refine gate_callee (f:=45) rfl (L ?_));refine cl (some 8) Try.func45 (spec_SmallestBoard.calls _ _ _ _ _ _ _ _ _ _ _ _ _ _ _ _ _ S.c S.n S.c S.n S.c S.n A2) (hargs:=by (simp only [ma_,mb_,mc_,F] <;> rfl)) (h:=?_);rintro e W ⟨v950,rfl,ho0,hb⟩;refine ⟨_,rfl,?_⟩;replace S:=S.got at42 hb ho0;obtain ⟨At949,ct949,rfl,S⟩:=S;clear F hb ho0;have F:=S.fc) | ((with_reducible refine gd 4 rfl (L ?_));refine al 4 S zi30 ?_;clear S F;intro gb953 W S;have F:=S.fc) | ((with_reducible refine gs (t:=30) rfl (L ?_));refine sb (.agg #[_,_,_]) S sz30 ?_;(clear S F;intro W S;have F:=S.fc)))
   go_ret2
   exact ⟨(by first | rfl | (simp [e0_,e1_] <;> rfl) | (simp [*,e0_,e1_] <;> rfl)),S.below⟩

/-! ### laws_pSum: function 48 -/
def laws_pSum.l0:Nat→Int→List Int→Int→Int→Option (Int)
 | 0,_,_,_,_=>none
 | k + 1,x3,x6,x7,x8=>if x8 < x7 then (if 0 ≤ x8 then (if x8 < (x6.length:Int) then (laws_pSum.l0 k (wrap64 (x3 + (rd x6 x8))) x6 x7 (wrap64 (x8 + 1))) else (none)) else (none)) else (some x3)
def laws_pSum.f (k:Nat) (l0:List Int):Option (Int):=laws_pSum.l0 k 0 l0 (l0.length:Int) 0
theorem laws_pSum.calls (k:Nat) (A0:Option Addr) (c0:Nat) (l0:List Int) (r:Int) (w:World) (hr0:Kd.C (Kd.int .i64) w A0 l0.length l0) (hc0:l0.length ≤ c0) (h:laws_pSum.f k l0 = some r) :
  Calls Try.prog 48 #[.slice A0 l0.length c0] w fun e w'=>e = .returned (.int .i64 r)∧Drawn0 w w':=by
 have HR0:=Aside0.mk hr0;have HC0:=Aside0.mk hc0;clear hr0 hc0;have H:(laws_pSum.l0 k 0 l0 (l0.length:Int) 0) = some r:=h;clear h;have H':=Aside0.mk H;clear H;go_enter Try.func48,Try.ntmps48;go_wp2;go_loopg [3,8] k (fun kq v3 v8 w'=>∃ (x3_1:Int) (x8_1:Int),v3 = .int .i64 x3_1∧v8 = .int .i64 x8_1∧Aside0 (laws_pSum.l0 kq x3_1 l0 (l0.length:Int) x8_1 = some r)∧Aside0 (kq ≤ k)∧Drawn0 w w')
 case atStart=>exact ⟨(0),(0),(by first | rfl | (simp;done) | (simp [*];done)),(by first | rfl | (simp;done) | (simp [*];done)),H',⟨Nat.le_refl _⟩,by repeat (first | exact Drawn0.refl _ | apply Drawn0.step)⟩
 case round =>
  clear H';obtain ⟨x3_1,x8_1,rfl,rfl,HA,HK1,⟨m1,rfl⟩⟩:=hrel;cases gk with
  | zero=>exact absurd HA.out (by simp [laws_pSum.l0])
  | succ k1 =>
   have H:=HA.out;clear HA;simp only [laws_pSum.l0] at H;by_cases c2:x8_1 < (l0.length:Int)
   ·rw [if_pos c2] at H;have c2b0:decide (x8_1 < (l0.length:Int)) = true:=decide_eq_true c2;clear c2;replace H:=np_ H;obtain ⟨c3,H⟩:=H;have c3b0:decide (0 ≤ x8_1) = true:=decide_eq_true c3;clear c3;replace H:=np_ H;obtain ⟨c4,H⟩:=H;have c4b0:decide (x8_1 < (l0.length:Int)) = true:=decide_eq_true c4;clear c4;have H':=Aside0.mk H;clear H;have p955:0 ≤ (x8_1:Int):=of_decide_eq_true (by first | (with_reducible assumption) | assumption);have q955:x8_1 < (l0.length:Int):=of_decide_eq_true (by first | (with_reducible assumption) | assumption);obtain ⟨ad955,e955,hx955_0⟩:=Kd.at_int HR0.out x8_1 p955 q955;cases e955;replace p955:=eq_true p955;replace q955:=eq_true q955;go_wp2;go_roundg k1
    case measure=>have:=HK1.out;omega
    case rel=>exact ⟨(wrap64 (x3_1 + (rd l0 x8_1))),(wrap64 (x8_1 + 1)),(by first | rfl | (simp;done) | (simp [*];done)),(by first | rfl | (simp;done) | (simp [*];done)),H',⟨by have:=HK1.out;omega⟩,by repeat (first | exact Drawn0.refl _ | apply Drawn0.step)⟩
   ·rw [if_neg c2] at H;have c2b0:decide (x8_1 < (l0.length:Int)) = false:=decide_eq_false c2;clear c2;obtain rfl:=Option.some.inj H;go_wp2;go_ret;exact ⟨by first | rfl | (simp;done) | (simp [*];done),by repeat (first | exact Drawn0.refl _ | apply Drawn0.step)⟩

/-! ### impl_CountKinds: function 131 -/
def impl_CountKinds.l0:Nat→List Int→List (S42)→Int→Int→Option (List Int × Bool)
  | 0,_,_,_,_=>none
  | k + 1,x4,x11,x12,x13=>if x13 < x12 then (if 0 ≤ x13 then (if x13 < (x11.length:Int) then (if 0 ≤ ((rd_T42 x11 x13).f0) then (if ((rd_T42 x11 x13).f0) < (x4.length:Int) then (impl_CountKinds.l0 k (x4.set (((rd_T42 x11 x13).f0):Int).toNat (wrap64 ((rd x4 ((rd_T42 x11 x13).f0)) + 1))) x11 x12 (wrap64 (x13 + 1))) else (none)) else (none)) else (none)) else (none)) else (some (x4,true))
def impl_CountKinds.f (k:Nat) (l0:List (S42)):Option (List Int × Bool):=(impl_validCells.f k l0).bind fun t956=>(if t956 = true then (if 8 ≤ 35184372088832 then (impl_CountKinds.l0 k (List.replicate 8 0) l0 (l0.length:Int) 0) else (none)) else (some (([]:List Int),false)))
theorem impl_CountKinds.calls (k:Nat) (A0:Option Addr) (c0:Nat) (l0:List (S42)) (r1:List Int) (r2:Bool) (w:World) (hr0:Kd.C k42 w A0 l0.length l0) (hc0:l0.length ≤ c0) (h:impl_CountKinds.f k l0 = some (r1,r2)) :
    Calls Try.prog 131 #[.slice A0 l0.length c0] w fun e w'=>∃ v0_:Value,e = .returned (.tuple #[v0_,.bool r2])∧Kd.R (Kd.int .i64) 3 w' w.heap.size (fun _=>True) v0_ r1∧Below w.heap.size w w':=by
 have S:=St.init (w:=w) (dc k42_heap at42 hr0 hc0 dn)
 clear hr0 hc0
 have F:=S.fc
 have H:=h;clear h;unfold impl_CountKinds.f at H
 replace H:=Option.bind_eq_some_iff.mp H;obtain ⟨t956,A2,H⟩:=H;(try dsimp only at H)
 replace H:=sp_ H;rcases H with ⟨c3,H⟩ | ⟨c3,H⟩
 · skip
   subst c3
   replace H:=np_ H;obtain ⟨c4,H⟩:=H;(try simp only [F] at c4)
   (first | (with_reducible replace H:=ob_ H;obtain ⟨y957,hy957,H⟩:=H;(try dsimp only at H)) | (obtain ⟨y957,hy957⟩:∃ y_:List Int,y_ = (List.replicate 8 0):=⟨_,rfl⟩;(try rw [← hy957] at H);(try simp only [Option.bind_some] at H)));have Ny957:=Aside0.mk hy957;clear hy957
   go_enter Try.func131,Try.ntmps131
   go_wp2_with (first | ((with_reducible refine gate_callee (f:=183) rfl (L ?_));refine cl (some 8) Try.func183 (impl_validCells.calls _ _ _ _ _ _ S.c S.n A2) (hargs:=by (simp only [ma_,mb_,mc_,F] <;> rfl)) (h:=?_);rintro e W ⟨rfl,hb⟩;refine ⟨_,rfl,?_⟩;replace S:=S.go hb;clear F hb;have F:=S.fc) | ((with_reducible refine gd 10 rfl (L ?_));refine mka 10 (atI .i64) S Try.underlying25 info3 ?_;clear S F;intro Ay957 cy957 W S;(try simp only [Int.reduceToNat] at S ⊢);(try rw [← Ny957.out] at S ⊢);have F:=S.fc))
   go_loopg [13] k (fun kq v13 w'=>∃ (x4_1:List Int) (x13_1:Int),v13 = .int .i64 x13_1∧impl_CountKinds.l0 kq x4_1 l0 (l0.length:Int) x13_1 = some (r1,r2)∧kq ≤ k∧St w w (fun _=>False) [bor at42 A0 c0 l0] w'  [row (atI .i64) 3 Ay957 y957.length cy957 x4_1])
   case atStart=>exact ⟨y957,0,(by first | rfl | (simp;done) | (simp [*];done) | (rw [w6_ (by omega) (by omega)])),(by first | exact H | (simp only [F];exact H)),Nat.le_refl _,S⟩
   case round =>
    clear H S F
    obtain ⟨x4_1,x13_1,rfl,HA,HK1,S⟩:=hrel
    have F:=S.fc
    cases gk with
    | zero=>exact absurd HA (by simp [impl_CountKinds.l0])
    | succ k1 =>
     have H:=HA;clear HA;simp only [impl_CountKinds.l0,F] at H
     replace H:=sp_ H;rcases H with ⟨c8,H⟩ | ⟨c8,H⟩
     · skip
       replace H:=np_ H;obtain ⟨c9,H⟩:=H;(try simp only [F] at c9)
       replace H:=np_ H;obtain ⟨c10,H⟩:=H;(try simp only [F] at c10)
       replace H:=np_ H;obtain ⟨c11,H⟩:=H;(try simp only [F] at c11)
       replace H:=np_ H;obtain ⟨c12,H⟩:=H;(try simp only [F] at c12)
       (first | (with_reducible replace H:=ob_ H;obtain ⟨y963,hy963,H⟩:=H;(try dsimp only at H)) | (obtain ⟨y963,hy963⟩:∃ y_:List Int,y_ = (x4_1.set (((rd_T42 l0 x13_1).f0):Int).toNat (wrap64 ((rd x4_1 ((rd_T42 l0 x13_1).f0)) + 1))):=⟨_,rfl⟩;(try rw [← hy963] at H);(try simp only [Option.bind_some] at H)));have Ny963:=Aside0.mk hy963;clear hy963
       go_wp2_with (first | ((with_reducible refine gd 6 rfl (L ?_));refine al 6 S zi42 ?_;clear S F;intro gb961 W S;have F:=S.fc) | ((with_reducible refine gs (t:=3) rfl (L ?_));refine ro (.int _ _) S sz3 ?_ (ho:=rfl) (hx:=rfl) (hy:=rfl);clear S F;intro W S;(try simp only [gd42] at S);(try rw [← Ny957.out] at S);(try rw [← Ny963.out] at S);have F:=S.fc) | ((with_reducible refine gs (t:=42) rfl (L ?_));refine sb (.agg #[_,_]) S sz42 ?_;clear S F;intro W S;(try simp only [gd42] at S);(try rw [← Ny957.out] at S);(try rw [← Ny963.out] at S);have F:=S.fc))
       go_roundg k1
       case measure=>omega
       case rel=>exact ⟨y963,(wrap64 (x13_1 + 1)),(by first | rfl | (simp;done) | (simp [*];done) | (rw [w6_ (by omega) (by omega)])),(by first | exact H | (simp only [F];exact H)),(by first | omega | exact Nat.le_refl _),S.tl⟩
     · skip
       simp only [Option.some.injEq,Prod.mk.injEq] at H
       obtain ⟨rfl,rfl⟩:=H
       go_wp2
       go_ret2
       exact ⟨_,(by first | rfl | (simp [e0_,e1_] <;> rfl) | (simp [*,e0_,e1_] <;> rfl)),(by first | exact S.r | exact Kd.R_nil _ _ _ _ _),S.below⟩
 · skip
   replace c3:=cbf c3;subst c3
   simp only [Option.some.injEq,Prod.mk.injEq] at H
   obtain ⟨rfl,rfl⟩:=H
   go_enter Try.func131,Try.ntmps131
   go_wp2_with ((with_reducible refine gate_callee (f:=183) rfl (L ?_));refine cl (some 8) Try.func183 (impl_validCells.calls _ _ _ _ _ _ S.c S.n A2) (hargs:=by (simp only [ma_,mb_,mc_,F] <;> rfl)) (h:=?_);rintro e W ⟨rfl,hb⟩;refine ⟨_,rfl,?_⟩;replace S:=S.go hb;clear F hb;have F:=S.fc)
   go_ret2
   exact ⟨_,(by first | rfl | (simp [e0_,e1_] <;> rfl) | (simp [*,e0_,e1_] <;> rfl)),(by first | exact S.r | exact Kd.R_nil _ _ _ _ _),S.below⟩

/-! ### impl_CountParts: function 49 -/
def impl_CountParts.f (k:Nat) (a0_0:Int) (a0_1:Int) (l0_2:List (S42)):Option (List Int × Bool):=(impl_IsBoard.f k a0_0 a0_1 l0_2).bind fun t965=>(if t965 = true then ((impl_CountKinds.f k l0_2).bind fun bt966=>(some (bt966.1,bt966.2))) else (some (([]:List Int),false)))
theorem impl_CountParts.calls (k:Nat) (a0_0:Int) (a0_1:Int) (A0_2:Option Addr) (c0_2:Nat) (l0_2:List (S42)) (r1:List Int) (r2:Bool) (w:World) (hr0_2:Kd.C k42 w A0_2 l0_2.length l0_2) (hc0_2:l0_2.length ≤ c0_2) (h:impl_CountParts.f k a0_0 a0_1 l0_2 = some (r1,r2)) :
    Calls Try.prog 49 #[.agg #[.int .i64 a0_0,.int .i64 a0_1,.slice A0_2 l0_2.length c0_2]] w fun e w'=>∃ v0_:Value,e = .returned (.tuple #[v0_,.bool r2])∧Kd.R (Kd.int .i64) 3 w' w.heap.size (fun _=>True) v0_ r1∧Below w.heap.size w w':=by
 have S:=St.init (w:=w) (dc k42_heap at42 hr0_2 hc0_2 dn)
 clear hr0_2 hc0_2
 have F:=S.fc
 have H:=h;clear h;unfold impl_CountParts.f at H
 replace H:=Option.bind_eq_some_iff.mp H;obtain ⟨t965,A2,H⟩:=H;(try dsimp only at H)
 replace H:=sp_ H;rcases H with ⟨c3,H⟩ | ⟨c3,H⟩
 · skip
   subst c3
   replace H:=Option.bind_eq_some_iff.mp H;obtain ⟨⟨t966,t967⟩,A4,H⟩:=H;(try dsimp only at H)
   simp only [Option.some.injEq,Prod.mk.injEq] at H
   obtain ⟨rfl,rfl⟩:=H
   go_enter Try.func49,Try.ntmps49
   go_wp2_with (first | ((with_reducible refine gd 1 rfl (L ?_));refine bo 1 (.agg #[_,_,_]) S ?_;clear S F;intro gb964 W S;have F:=S.fc) | ((with_reducible refine gate_callee (f:=98) rfl (L ?_));refine cl (some 5) Try.func98 (impl_IsBoard.calls _ _ _ _ _ _ _ _ S.c S.n A2) (hargs:=by (simp only [ma_,mb_,mc_,F] <;> rfl)) (h:=?_);rintro e W ⟨rfl,hb⟩;refine ⟨_,rfl,?_⟩;replace S:=S.go hb;clear F hb;have F:=S.fc) | ((with_reducible refine gate_callee (f:=131) rfl (L ?_));refine cl (some 9) Try.func131 (impl_CountKinds.calls _ _ _ _ _ _ _ S.c S.n A4) (hargs:=by (simp only [ma_,mb_,mc_,F] <;> rfl)) (h:=?_);rintro e W ⟨v968,rfl,ho0,hb⟩;refine ⟨_,rfl,?_⟩;replace S:=S.got (atI .i64) hb ho0;obtain ⟨At966,ct966,rfl,S⟩:=S;clear F hb ho0;have F:=S.fc))
   go_ret2
   exact ⟨_,(by first | rfl | (simp [e0_,e1_] <;> rfl) | (simp [*,e0_,e1_] <;> rfl)),(by first | exact S.r | exact Kd.R_nil _ _ _ _ _),S.below⟩
 · skip
   replace c3:=cbf c3;subst c3
   simp only [Option.some.injEq,Prod.mk.injEq] at H
   obtain ⟨rfl,rfl⟩:=H
   go_enter Try.func49,Try.ntmps49
   go_wp2_with (first | ((with_reducible refine gd 1 rfl (L ?_));refine bo 1 (.agg #[_,_,_]) S ?_;clear S F;intro gb964 W S;have F:=S.fc) | ((with_reducible refine gate_callee (f:=98) rfl (L ?_));refine cl (some 5) Try.func98 (impl_IsBoard.calls _ _ _ _ _ _ _ _ S.c S.n A2) (hargs:=by (simp only [ma_,mb_,mc_,F] <;> rfl)) (h:=?_);rintro e W ⟨rfl,hb⟩;refine ⟨_,rfl,?_⟩;replace S:=S.go hb;clear F hb;have F:=S.fc))
   go_ret2
   exact ⟨_,(by first | rfl | (simp [e0_,e1_] <;> rfl) | (simp [*,e0_,e1_] <;> rfl)),(by first | exact S.r | exact Kd.R_nil _ _ _ _ _),S.below⟩

/-! ### spec_boGood: function 132 -/
mutual
def spec_boGood.j0:Nat→Bool→Int→Int→List (S42)→Option (Bool)
  | 0,_,_,_,_=>none
  | k + 1,x25,x971000,x971001,x971002=>if x25 = true then (some false) else (spec_boGood.l0 k x971002 (x971002.length:Int) 0)
def spec_boGood.l0:Nat→List (S42)→Int→Int→Option (Bool)
  | 0,_,_,_=>none
  | k + 1,x27,x28,x29=>if x29 < x28 then (if 0 ≤ x29 then (if x29 < (x27.length:Int) then ((spec_paGood.f ((rd_T42 x27 x29).f0) ((rd_T42 x27 x29).f1)).bind fun t975=>(if t975 = true then (spec_boGood.l0 k x27 x28 (wrap64 (x29 + 1))) else (some false))) else (none)) else (none)) else (some true)
end
def spec_boGood.f (k:Nat) (a0_0:Int) (a0_1:Int) (l0_2:List (S42)):Option (Bool):=(spec_l1In.f a0_0 1 10).bind fun t971=>(if t971 = true then ((spec_l1In.f a0_1 1 9).bind fun t972=>(if t972 = true then (spec_boGood.j0 k ((l0_2.length:Int) != (wrap64 (a0_0 * a0_1))) a0_0 a0_1 l0_2) else (spec_boGood.j0 k true a0_0 a0_1 l0_2))) else (spec_boGood.j0 k true a0_0 a0_1 l0_2))
theorem spec_boGood.calls (k:Nat) (a0_0:Int) (a0_1:Int) (A0_2:Option Addr) (c0_2:Nat) (l0_2:List (S42)) (r:Bool) (w:World) (hr0_2:Kd.C k42 w A0_2 l0_2.length l0_2) (hc0_2:l0_2.length ≤ c0_2) (h:spec_boGood.f k a0_0 a0_1 l0_2 = some r) :
    Calls Try.prog 132 #[.agg #[.int .i64 a0_0,.int .i64 a0_1,.slice A0_2 l0_2.length c0_2]] w fun e w'=>e = .returned (.bool r)∧Below w.heap.size w w':=by
 have S:=St.init (w:=w) (dc k42_heap at42 hr0_2 hc0_2 dn)
 clear hr0_2 hc0_2
 have F:=S.fc
 have H:=h;clear h;unfold spec_boGood.f at H
 go_enter Try.func132,Try.ntmps132
 go_upto_region 1 with ((with_reducible refine gd 1 rfl (L ?_));refine bo 1 (.agg #[_,_,_]) S ?_;clear S F;intro gb970 W S;have F:=S.fc)
 (try simp only [Act.put,List.setIfInBounds_toArray,List.set_cons_zero,List.set_cons_succ])
 go_cut [25] (fun v25 wc=>∃ (kq:Nat) (x25_1:Bool),v25 = .bool x25_1∧spec_boGood.j0 kq x25_1 a0_0 a0_1 l0_2 = some r∧kq ≤ k∧St w w (fun _=>False) [bor at42 A0_2 c0_2 l0_2] wc  [box gb970 30 [.int .i64 a0_0,.int .i64 a0_1,.slice A0_2 l0_2.length c0_2]])
 case first =>
  replace H:=Option.bind_eq_some_iff.mp H;obtain ⟨t971,A4,H⟩:=H;(try dsimp only at H)
  replace H:=sp_ H;rcases H with ⟨c5,H⟩ | ⟨c5,H⟩
  · skip
    subst c5
    replace H:=Option.bind_eq_some_iff.mp H;obtain ⟨t972,A6,H⟩:=H;(try dsimp only at H)
    replace H:=sp_ H;rcases H with ⟨c7,H⟩ | ⟨c7,H⟩
    · skip
      subst c7
      go_wp2_with (first | ((with_reducible refine gate_callee (f:=116) rfl (L ?_));refine cl (some 7) Try.func116 (spec_l1In.calls _ _ _ _ _ A4) (hargs:=by (simp only [ma_,mb_,mc_,F] <;> rfl)) (h:=?_);rintro e W ⟨rfl,hb⟩;refine ⟨_,rfl,?_⟩;replace S:=S.gw hb;clear F hb;have F:=S.fc) | (go_at_call 116;(try simp only [F]);refine (spec_l1In.calls _ _ _ _ _ A6).mono ?_;rintro e W ⟨rfl,hb⟩;replace S:=S.gw hb;clear F hb;have F:=S.fc))
      go_meet
      case rel=>exact ⟨_,((l0_2.length:Int) != (wrap64 (a0_0 * a0_1))),(by first | rfl | (simp;done) | (simp [*];done) | (rw [w6_ (by omega) (by omega)])),H,(by first | omega | exact Nat.le_refl _),S⟩
    · skip
      replace c7:=cbf c7;subst c7
      go_wp2_with (first | ((with_reducible refine gate_callee (f:=116) rfl (L ?_));refine cl (some 7) Try.func116 (spec_l1In.calls _ _ _ _ _ A4) (hargs:=by (simp only [ma_,mb_,mc_,F] <;> rfl)) (h:=?_);rintro e W ⟨rfl,hb⟩;refine ⟨_,rfl,?_⟩;replace S:=S.gw hb;clear F hb;have F:=S.fc) | (go_at_call 116;(try simp only [F]);refine (spec_l1In.calls _ _ _ _ _ A6).mono ?_;rintro e W ⟨rfl,hb⟩;replace S:=S.gw hb;clear F hb;have F:=S.fc))
      go_meet
      case rel=>exact ⟨_,true,(by first | rfl | (simp;done) | (simp [*];done) | (rw [w6_ (by omega) (by omega)])),H,(by first | omega | exact Nat.le_refl _),S⟩
  · skip
    replace c5:=cbf c5;subst c5
    go_wp2_with ((with_reducible refine gate_callee (f:=116) rfl (L ?_));refine cl (some 7) Try.func116 (spec_l1In.calls _ _ _ _ _ A4) (hargs:=by (simp only [ma_,mb_,mc_,F] <;> rfl)) (h:=?_);rintro e W ⟨rfl,hb⟩;refine ⟨_,rfl,?_⟩;replace S:=S.gw hb;clear F hb;have F:=S.fc)
    go_meet
    case rel=>exact ⟨_,true,(by first | rfl | (simp;done) | (simp [*];done) | (rw [w6_ (by omega) (by omega)])),H,(by first | omega | exact Nat.le_refl _),S⟩
 case rest =>
  clear H S F
  obtain ⟨kq,x25_1,rfl,HA,HJ1,S⟩:=hcut
  have F:=S.fc
  cases kq with
  | zero=>exact absurd HA (by simp [spec_boGood.j0])
  | succ kj1 =>
   have H:=HA;clear HA;simp only [spec_boGood.j0,F] at H
   replace H:=sp_ H;rcases H with ⟨c11,H⟩ | ⟨c11,H⟩
   · skip
     subst c11
     obtain rfl:=Option.some.inj H
     go_wp2
     go_ret
     exact ⟨(by first | rfl | (simp [e0_,e1_] <;> rfl) | (simp [*,e0_,e1_] <;> rfl)),S.below⟩
   · skip
     replace c11:=cbf c11;subst c11
     go_wp2
     go_loopg [29] kj1 (fun kq v29 w'=>∃ (x29_2:Int),v29 = .int .i64 x29_2∧spec_boGood.l0 kq l0_2 (l0_2.length:Int) x29_2 = some r∧kq ≤ kj1∧St w w (fun _=>False) [bor at42 A0_2 c0_2 l0_2] w'  [box gb970 30 [.int .i64 a0_0,.int .i64 a0_1,.slice A0_2 l0_2.length c0_2]])
     case atStart=>exact ⟨0,(by first | rfl | (simp;done) | (simp [*];done) | (rw [w6_ (by omega) (by omega)])),H,Nat.le_refl _,S⟩
     case round =>
      clear H S F
      obtain ⟨x29_2,rfl,HA,HK2,S⟩:=hrel
      have F:=S.fc
      cases gk with
      | zero=>exact absurd HA (by simp [spec_boGood.l0])
      | succ k2 =>
       have H:=HA;clear HA;simp only [spec_boGood.l0,F] at H
       replace H:=sp_ H;rcases H with ⟨c13,H⟩ | ⟨c13,H⟩
       · skip
         replace H:=np_ H;obtain ⟨c14,H⟩:=H
         replace H:=np_ H;obtain ⟨c15,H⟩:=H
         replace H:=Option.bind_eq_some_iff.mp H;obtain ⟨t975,A16,H⟩:=H;(try dsimp only at H)
         replace H:=sp_ H;rcases H with ⟨c17,H⟩ | ⟨c17,H⟩
         · skip
           subst c17
           go_wp2_with (first | ((with_reducible refine gd 4 rfl (L ?_));refine al 4 S zi42 ?_;clear S F;intro gb974 W S;have F:=S.fc) | ((with_reducible refine gate_callee (f:=180) rfl (L ?_));refine cl (some 34) Try.func180 (spec_paGood.calls _ _ _ _ A16) (hargs:=by (simp only [ma_,mb_,mc_,F] <;> rfl)) (h:=?_);rintro e W ⟨rfl,hb⟩;refine ⟨_,rfl,?_⟩;replace S:=S.go hb;clear F hb;have F:=S.fc) | ((with_reducible refine gs (t:=42) rfl (L ?_));refine sb (.agg #[_,_]) S sz42 ?_;(clear S F;intro W S;have F:=S.fc)))
           go_roundg k2
           case measure=>omega
           case rel=>exact ⟨(wrap64 (x29_2 + 1)),(by first | rfl | (simp;done) | (simp [*];done) | (rw [w6_ (by omega) (by omega)])),H,(by first | omega | exact Nat.le_refl _),S.tl⟩
         · skip
           replace c17:=cbf c17;subst c17
           obtain rfl:=Option.some.inj H
           go_wp2_with (first | ((with_reducible refine gd 4 rfl (L ?_));refine al 4 S zi42 ?_;clear S F;intro gb974 W S;have F:=S.fc) | ((with_reducible refine gate_callee (f:=180) rfl (L ?_));refine cl (some 34) Try.func180 (spec_paGood.calls _ _ _ _ A16) (hargs:=by (simp only [ma_,mb_,mc_,F] <;> rfl)) (h:=?_);rintro e W ⟨rfl,hb⟩;refine ⟨_,rfl,?_⟩;replace S:=S.go hb;clear F hb;have F:=S.fc) | ((with_reducible refine gs (t:=42) rfl (L ?_));refine sb (.agg #[_,_]) S sz42 ?_;(clear S F;intro W S;have F:=S.fc)))
           go_ret
           exact ⟨(by first | rfl | (simp [e0_,e1_] <;> rfl) | (simp [*,e0_,e1_] <;> rfl)),S.below⟩
       · skip
         obtain rfl:=Option.some.inj H
         go_wp2
         go_ret
         exact ⟨(by first | rfl | (simp [e0_,e1_] <;> rfl) | (simp [*,e0_,e1_] <;> rfl)),S.below⟩

/-! ### spec_CountParts: function 50 -/
def spec_CountParts.f (k:Nat) (a0_0:Int) (a0_1:Int) (l0_2:List (S42)):Option (List Int × Bool):=(spec_boGood.f k a0_0 a0_1 l0_2).bind fun t977=>(if t977 = true then ((spec_boParts.f k a0_0 a0_1 l0_2).bind fun t978=>(some (t978,true))) else (some (([]:List Int),false)))
theorem spec_CountParts.calls (k:Nat) (a0_0:Int) (a0_1:Int) (A0_2:Option Addr) (c0_2:Nat) (l0_2:List (S42)) (r1:List Int) (r2:Bool) (w:World) (hr0_2:Kd.C k42 w A0_2 l0_2.length l0_2) (hc0_2:l0_2.length ≤ c0_2) (h:spec_CountParts.f k a0_0 a0_1 l0_2 = some (r1,r2)) :
    Calls Try.prog 50 #[.agg #[.int .i64 a0_0,.int .i64 a0_1,.slice A0_2 l0_2.length c0_2]] w fun e w'=>∃ v0_:Value,e = .returned (.tuple #[v0_,.bool r2])∧Kd.R (Kd.int .i64) 3 w' w.heap.size (fun _=>True) v0_ r1∧Below w.heap.size w w':=by
 have S:=St.init (w:=w) (dc k42_heap at42 hr0_2 hc0_2 dn)
 clear hr0_2 hc0_2
 have F:=S.fc
 have H:=h;clear h;unfold spec_CountParts.f at H
 replace H:=Option.bind_eq_some_iff.mp H;obtain ⟨t977,A2,H⟩:=H;(try dsimp only at H)
 replace H:=sp_ H;rcases H with ⟨c3,H⟩ | ⟨c3,H⟩
 · skip
   subst c3
   replace H:=Option.bind_eq_some_iff.mp H;obtain ⟨t978,A4,H⟩:=H;(try dsimp only at H)
   simp only [Option.some.injEq,Prod.mk.injEq] at H
   obtain ⟨rfl,rfl⟩:=H
   go_enter Try.func50,Try.ntmps50
   go_wp2_with (first | ((with_reducible refine gd 1 rfl (L ?_));refine bo 1 (.agg #[_,_,_]) S ?_;clear S F;intro gb976 W S;have F:=S.fc) | ((with_reducible refine gate_callee (f:=132) rfl (L ?_));refine cl (some 5) Try.func132 (spec_boGood.calls _ _ _ _ _ _ _ _ S.c S.n A2) (hargs:=by (simp only [ma_,mb_,mc_,F] <;> rfl)) (h:=?_);rintro e W ⟨rfl,hb⟩;refine ⟨_,rfl,?_⟩;replace S:=S.go hb;clear F hb;have F:=S.fc) | ((with_reducible refine gate_callee (f:=133) rfl (L ?_));refine cl (some 8) Try.func133 (spec_boParts.calls _ _ _ _ _ _ _ _ S.c S.n A4) (hargs:=by (simp only [ma_,mb_,mc_,F] <;> rfl)) (h:=?_);rintro e W ⟨v979,rfl,ho0,hb⟩;refine ⟨_,rfl,?_⟩;replace S:=S.got (atI .i64) hb ho0;obtain ⟨At978,ct978,rfl,S⟩:=S;clear F hb ho0;have F:=S.fc))
   go_ret2
   exact ⟨_,(by first | rfl | (simp [e0_,e1_] <;> rfl) | (simp [*,e0_,e1_] <;> rfl)),(by first | exact S.r | exact Kd.R_nil _ _ _ _ _),S.below⟩
 · skip
   replace c3:=cbf c3;subst c3
   simp only [Option.some.injEq,Prod.mk.injEq] at H
   obtain ⟨rfl,rfl⟩:=H
   go_enter Try.func50,Try.ntmps50
   go_wp2_with (first | ((with_reducible refine gd 1 rfl (L ?_));refine bo 1 (.agg #[_,_,_]) S ?_;clear S F;intro gb976 W S;have F:=S.fc) | ((with_reducible refine gate_callee (f:=132) rfl (L ?_));refine cl (some 5) Try.func132 (spec_boGood.calls _ _ _ _ _ _ _ _ S.c S.n A2) (hargs:=by (simp only [ma_,mb_,mc_,F] <;> rfl)) (h:=?_);rintro e W ⟨rfl,hb⟩;refine ⟨_,rfl,?_⟩;replace S:=S.go hb;clear F hb;have F:=S.fc))
   go_ret2
   exact ⟨_,(by first | rfl | (simp [e0_,e1_] <;> rfl) | (simp [*,e0_,e1_] <;> rfl)),(by first | exact S.r | exact Kd.R_nil _ _ _ _ _),S.below⟩

/-! ### impl_validEntry: function 134 -/
def impl_validEntry.f (k:Nat) (a0_0:Int) (a0_1:Int) (l0_2:List (S42)) (a1:Int):Option (Bool):=(impl_IsBoard.f k a0_0 a0_1 l0_2).bind fun t982=>(if t982 = true then (if a1 ≥ 0 then (some (decide (a1 < a0_1))) else (some false)) else (some false))
theorem impl_validEntry.calls (k:Nat) (a0_0:Int) (a0_1:Int) (A0_2:Option Addr) (c0_2:Nat) (l0_2:List (S42)) (a1:Int) (r:Bool) (w:World) (hr0_2:Kd.C k42 w A0_2 l0_2.length l0_2) (hc0_2:l0_2.length ≤ c0_2) (h:impl_validEntry.f k a0_0 a0_1 l0_2 a1 = some r) :
    Calls Try.prog 134 #[.agg #[.int .i64 a0_0,.int .i64 a0_1,.slice A0_2 l0_2.length c0_2],.int .i64 a1] w fun e w'=>e = .returned (.bool r)∧Below w.heap.size w w':=by
 have S:=St.init (w:=w) (dc k42_heap at42 hr0_2 hc0_2 dn)
 clear hr0_2 hc0_2
 have F:=S.fc
 have H:=h;clear h;unfold impl_validEntry.f at H
 replace H:=Option.bind_eq_some_iff.mp H;obtain ⟨t982,A3,H⟩:=H;(try dsimp only at H)
 replace H:=sp_ H;rcases H with ⟨c4,H⟩ | ⟨c4,H⟩
 · skip
   subst c4
   replace H:=sp_ H;rcases H with ⟨c5,H⟩ | ⟨c5,H⟩
   · skip
     obtain rfl:=Option.some.inj H
     go_enter Try.func134,Try.ntmps134
     go_wp2_with (first | ((with_reducible refine gd 2 rfl (L ?_));refine bo 2 (.agg #[_,_,_]) S ?_;clear S F;intro gb981 W S;have F:=S.fc) | ((with_reducible refine gate_callee (f:=98) rfl (L ?_));refine cl (some 6) Try.func98 (impl_IsBoard.calls _ _ _ _ _ _ _ _ S.c S.n A3) (hargs:=by (simp only [ma_,mb_,mc_,F] <;> rfl)) (h:=?_);rintro e W ⟨rfl,hb⟩;refine ⟨_,rfl,?_⟩;replace S:=S.go hb;clear F hb;have F:=S.fc))
     go_ret
     exact ⟨(by first | rfl | (simp [e0_,e1_] <;> rfl) | (simp [*,e0_,e1_] <;> rfl)),S.below⟩
   · skip
     obtain rfl:=Option.some.inj H
     go_enter Try.func134,Try.ntmps134
     go_wp2_with (first | ((with_reducible refine gd 2 rfl (L ?_));refine bo 2 (.agg #[_,_,_]) S ?_;clear S F;intro gb981 W S;have F:=S.fc) | ((with_reducible refine gate_callee (f:=98) rfl (L ?_));refine cl (some 6) Try.func98 (impl_IsBoard.calls _ _ _ _ _ _ _ _ S.c S.n A3) (hargs:=by (simp only [ma_,mb_,mc_,F] <;> rfl)) (h:=?_);rintro e W ⟨rfl,hb⟩;refine ⟨_,rfl,?_⟩;replace S:=S.go hb;clear F hb;have F:=S.fc))
     go_ret
     exact ⟨(by first | rfl | (simp [e0_,e1_] <;> rfl) | (simp [*,e0_,e1_] <;> rfl)),S.below⟩
 · skip
   replace c4:=cbf c4;subst c4
   obtain rfl:=Option.some.inj H
   go_enter Try.func134,Try.ntmps134
   go_wp2_with (first | ((with_reducible refine gd 2 rfl (L ?_));refine bo 2 (.agg #[_,_,_]) S ?_;clear S F;intro gb981 W S;have F:=S.fc) | ((with_reducible refine gate_callee (f:=98) rfl (L ?_));refine cl (some 6) Try.func98 (impl_IsBoard.calls _ _ _ _ _ _ _ _ S.c S.n A3) (hargs:=by (simp only [ma_,mb_,mc_,F] <;> rfl)) (h:=?_);rintro e W ⟨rfl,hb⟩;refine ⟨_,rfl,?_⟩;replace S:=S.go hb;clear F hb;have F:=S.fc))
   go_ret
   exact ⟨(by first | rfl | (simp [e0_,e1_] <;> rfl) | (simp [*,e0_,e1_] <;> rfl)),S.below⟩

/-! ### impl_FallOf: function 69 -/
def impl_FallOf.f (k:Nat) (a0_0:Int) (a0_1:Int) (l0_2:List (S42)) (a1:Int):Option (Int × Int × Int × Bool):=(impl_validEntry.f k a0_0 a0_1 l0_2 a1).bind fun t985=>(if t985 = true then ((impl_copyBoard.f a0_0 a0_1 l0_2).bind fun bt986=>((impl_groupNumbers.f k a0_0 a0_1 l0_2).bind fun t991=>((impl_drop.f k bt986.1 bt986.2.1 bt986.2.2 t991 a1).bind fun bt994=>(some (bt994.1,bt994.2.1,bt994.2.2.1,true))))) else (some (0,0,0,false)))
theorem impl_FallOf.calls (k:Nat) (a0_0:Int) (a0_1:Int) (A0_2:Option Addr) (c0_2:Nat) (l0_2:List (S42)) (a1:Int) (r1:Int) (r2:Int) (r3:Int) (r4:Bool) (w:World) (hr0_2:Kd.C k42 w A0_2 l0_2.length l0_2) (hc0_2:l0_2.length ≤ c0_2) (h:impl_FallOf.f k a0_0 a0_1 l0_2 a1 = some (r1,r2,r3,r4)) :
    Calls Try.prog 69 #[.agg #[.int .i64 a0_0,.int .i64 a0_1,.slice A0_2 l0_2.length c0_2],.int .i64 a1] w fun e w'=>e = .returned (.tuple #[.agg #[.int .i64 r1,.int .i64 r2,.int .i64 r3],.bool r4])∧Below w.heap.size w w':=by
 have S:=St.init (w:=w) (dc k42_heap at42 hr0_2 hc0_2 dn)
 clear hr0_2 hc0_2
 have F:=S.fc
 have H:=h;clear h;unfold impl_FallOf.f at H
 replace H:=Option.bind_eq_some_iff.mp H;obtain ⟨t985,A3,H⟩:=H;(try dsimp only at H)
 replace H:=sp_ H;rcases H with ⟨c4,H⟩ | ⟨c4,H⟩
 · skip
   subst c4
   replace H:=Option.bind_eq_some_iff.mp H;obtain ⟨⟨t986,t987,t988⟩,A5,H⟩:=H;(try dsimp only at H)
   replace H:=Option.bind_eq_some_iff.mp H;obtain ⟨t991,A6,H⟩:=H;(try dsimp only at H)
   replace H:=Option.bind_eq_some_iff.mp H;obtain ⟨⟨t994,t995,t996,t997,t1000⟩,A7,H⟩:=H;(try dsimp only at H)
   simp only [Option.some.injEq,Prod.mk.injEq] at H
   obtain ⟨rfl,rfl,rfl,rfl⟩:=H
   go_enter Try.func69,Try.ntmps69
   go_wp2_with (first | ((with_reducible refine gd 2 rfl (L ?_));refine bo 2 (.agg #[_,_,_]) S ?_;clear S F;intro gb983 W S;have F:=S.fc) | ((with_reducible refine gd 4 rfl (L ?_));refine al 4 S zi80 ?_;clear S F;intro gb984 W S;have F:=S.fc) | ((with_reducible refine gate_callee (f:=134) rfl (L ?_));refine cl (some 10) Try.func134 (impl_validEntry.calls _ _ _ _ _ _ _ _ _ S.c S.n A3) (hargs:=by (simp only [ma_,mb_,mc_,F] <;> rfl)) (h:=?_);rintro e W ⟨rfl,hb⟩;refine ⟨_,rfl,?_⟩;replace S:=S.go hb;clear F hb;have F:=S.fc))
   refine rgF S (fun _ S=>S) (fkc 9 6 zi80 fk0) [(0,4),(1,0),(1,2),(2,1),(2,3),(2,5),(0,6),(0,7),(0,8)] [(3,10),(0,11)] [10] (id:=3) (h:=?_);clear S F;intro W S;have S0:=S;have F:=S.fc
   repeat (first | (refine f0 (h:=?_)) | (refine f1 S0 (h:=?_)))
   refine fe2 S (by rfl) ?_;intro x6_ X W S;simp only [List.cons_append,List.nil_append,putF,Act.put,za_,zb_,zc_] at S ⊢;clear F;have F:=S.fc;refine ⟨rfl,?_⟩;refine cl (some 15) Try.func163 (impl_copyBoard.calls _ _ _ _ _ _ _ _ _ S.c S.n A5) (hargs:=by (simp only [ma_,mb_,mc_,F] <;> rfl)) (h:=?_);rintro e W ⟨v989,rfl,ho0,hb⟩;refine ⟨_,rfl,?_⟩;replace S:=S.got at42 hb ho0;obtain ⟨At988,ct988,rfl,S⟩:=S;clear F hb ho0;have F:=S.fc
   clear S0;have S0:=(S.nx X).tl;refine ⟨S0,?_⟩
   refine fe2 S (by rfl) ?_;intro x6_ X W S;simp only [List.cons_append,List.nil_append,putF,Act.put,za_,zb_,zc_] at S ⊢;clear F;have F:=S.fc;refine ⟨rfl,?_⟩;refine cl (some 17) Try.func164 (impl_groupNumbers.calls _ _ _ _ _ _ _ _ S.c S.n A6) (hargs:=by (simp only [ma_,mb_,mc_,F] <;> rfl)) (h:=?_);rintro e W ⟨v992,rfl,ho0,hb⟩;refine ⟨_,rfl,?_⟩;replace S:=S.got (atI .i64) hb ho0;obtain ⟨At991,ct991,rfl,S⟩:=S;clear F hb ho0;have F:=S.fc
   clear S0;have S0:=(S.nx X).tl.tl;refine ⟨S0,?_⟩
   refine fe2 S (by rfl) ?_;intro x6_ X W S;simp only [List.cons_append,List.nil_append,putF,Act.put,za_,zb_,zc_] at S ⊢;clear F;have F:=S.fc;refine ⟨rfl,?_⟩;obtain ⟨ok_,k_⟩:=S.lend (A:=At988);refine cl (some 19) Try.func162 (impl_drop.calls _ _ _ ok_ _ _ _ _ _ _ _ _ _ _ _ _ _ k_.below k_.own k_.c k_.n A7) (hargs:=by (simp only [ma_,mb_,mc_,F] <;> rfl)) (h:=?_);rintro e W ⟨v998,rfl,ho,hy,hb,hk⟩;refine ⟨_,rfl,?_⟩;clear S F;obtain ⟨At997,ct997,rfl,S⟩:=k_.back1 (atI .i64) ho hy hb hk (by decide);clear k_ ho hy hb hk;have F:=S.fc
   clear S0;have S0:=(S.nx X).tl.tl.tl;refine ⟨S0,?_⟩
   repeat (refine f0 (h:=?_))
   refine fz S ?_;intro gb1001 W S;simp only [bxs,fbox,ptr,List.map_cons,List.map_nil,List.cons_append,List.nil_append,putF,Act.put,za_,zb_,zc_] at S ⊢;clear F S0;have S0:=S.tl.tl.tl.tl;have F:=S.fc
   refine lk3 (by rfl) (by exact (Eq.refl true)) ?_;(first | refine sb (.agg #[_,_,_]) S sz80 ?_ | refine ro (.agg #[_,_,_]) S sz80 ?_ (ho:=rfl) (hx:=rfl) (hy:=rfl));(clear S F;intro W S;have F:=S.fc)
   repeat ((refine q0 (h:=?_)))
   refine oz ?_
   try clear S0
   go_wp2_with ((with_reducible refine gs (t:=80) rfl (L ?_));refine sb (.agg #[_,_,_]) S sz80 ?_;(clear S F;intro W S;have F:=S.fc))
   refine bodyPost_ret (results_ct rfl _ _ gb984 80 #[.int .i64 t994,.int .i64 t995,.int .i64 t996] (0,0) _ rfl S.hb Try.underlying80 rfl (by kernel_rfl)) rfl ?_
   exact ⟨(by first | rfl | (simp [e0_,e1_] <;> rfl) | (simp [*,e0_,e1_] <;> rfl)),S.below⟩
 · skip
   replace c4:=cbf c4;subst c4
   simp only [Option.some.injEq,Prod.mk.injEq] at H
   obtain ⟨rfl,rfl,rfl,rfl⟩:=H
   go_enter Try.func69,Try.ntmps69
   go_wp2_with (first | ((with_reducible refine gd 2 rfl (L ?_));refine bo 2 (.agg #[_,_,_]) S ?_;clear S F;intro gb983 W S;have F:=S.fc) | ((with_reducible refine gd 4 rfl (L ?_));refine al 4 S zi80 ?_;clear S F;intro gb984 W S;have F:=S.fc) | ((with_reducible refine gate_callee (f:=134) rfl (L ?_));refine cl (some 10) Try.func134 (impl_validEntry.calls _ _ _ _ _ _ _ _ _ S.c S.n A3) (hargs:=by (simp only [ma_,mb_,mc_,F] <;> rfl)) (h:=?_);rintro e W ⟨rfl,hb⟩;refine ⟨_,rfl,?_⟩;replace S:=S.go hb;clear F hb;have F:=S.fc) | ((with_reducible refine gs (t:=80) rfl (L ?_));refine sb (.agg #[_,_,_]) S sz80 ?_;(clear S F;intro W S;have F:=S.fc)))
   refine bodyPost_ret (results_ct rfl _ _ gb984 80 #[.int .i64 0,.int .i64 0,.int .i64 0] (0,0) _ rfl S.hb Try.underlying80 rfl (by kernel_rfl)) rfl ?_
   exact ⟨(by first | rfl | (simp [e0_,e1_] <;> rfl) | (simp [*,e0_,e1_] <;> rfl)),S.below⟩

/-! ### impl_EndNumber: function 51 -/
def impl_EndNumber.f (k:Nat) (a0_0:Int) (a0_1:Int) (l0_2:List (S42)) (a1:Int):Option (Int × Bool):=(impl_validEntry.f k a0_0 a0_1 l0_2 a1).bind fun t1003=>(if t1003 = true then ((impl_FallOf.f k a0_0 a0_1 l0_2 a1).bind fun bt1004=>((impl_endNumber.f a0_0 a0_1 l0_2 bt1004.1 bt1004.2.1 bt1004.2.2.1).bind fun t1009=>(some (t1009,true)))) else (some (0,false)))
theorem impl_EndNumber.calls (k:Nat) (a0_0:Int) (a0_1:Int) (A0_2:Option Addr) (c0_2:Nat) (l0_2:List (S42)) (a1:Int) (r1:Int) (r2:Bool) (w:World) (hr0_2:Kd.C k42 w A0_2 l0_2.length l0_2) (hc0_2:l0_2.length ≤ c0_2) (h:impl_EndNumber.f k a0_0 a0_1 l0_2 a1 = some (r1,r2)) :
    Calls Try.prog 51 #[.agg #[.int .i64 a0_0,.int .i64 a0_1,.slice A0_2 l0_2.length c0_2],.int .i64 a1] w fun e w'=>e = .returned (.tuple #[.int .i64 r1,.bool r2])∧Below w.heap.size w w':=by
 have S:=St.init (w:=w) (dc k42_heap at42 hr0_2 hc0_2 dn)
 clear hr0_2 hc0_2
 have F:=S.fc
 have H:=h;clear h;unfold impl_EndNumber.f at H
 replace H:=Option.bind_eq_some_iff.mp H;obtain ⟨t1003,A3,H⟩:=H;(try dsimp only at H)
 replace H:=sp_ H;rcases H with ⟨c4,H⟩ | ⟨c4,H⟩
 · skip
   subst c4
   replace H:=Option.bind_eq_some_iff.mp H;obtain ⟨⟨t1004,t1005,t1006,t1007⟩,A5,H⟩:=H;(try dsimp only at H)
   replace H:=Option.bind_eq_some_iff.mp H;obtain ⟨t1009,A6,H⟩:=H;(try dsimp only at H)
   simp only [Option.some.injEq,Prod.mk.injEq] at H
   obtain ⟨rfl,rfl⟩:=H
   go_enter Try.func51,Try.ntmps51
   go_wp2_with (first | ((with_reducible refine gd 2 rfl (L ?_));refine bo 2 (.agg #[_,_,_]) S ?_;clear S F;intro gb1002 W S;have F:=S.fc) | ((with_reducible refine gate_callee (f:=134) rfl (L ?_));refine cl (some 10) Try.func134 (impl_validEntry.calls _ _ _ _ _ _ _ _ _ S.c S.n A3) (hargs:=by (simp only [ma_,mb_,mc_,F] <;> rfl)) (h:=?_);rintro e W ⟨rfl,hb⟩;refine ⟨_,rfl,?_⟩;replace S:=S.go hb;clear F hb;have F:=S.fc) | ((with_reducible refine gate_callee (f:=69) rfl (L ?_));refine cl (some 15) Try.func69 (impl_FallOf.calls _ _ _ _ _ _ _ _ _ _ _ _ S.c S.n A5) (hargs:=by (simp only [ma_,mb_,mc_,F] <;> rfl)) (h:=?_);rintro e W ⟨rfl,hb⟩;refine ⟨_,rfl,?_⟩;replace S:=S.go hb;clear F hb;have F:=S.fc) | ((with_reducible refine gd 6 rfl (L ?_));refine al 6 S zi80 ?_;clear S F;intro gb1008 W S;have F:=S.fc) | ((with_reducible refine gate_callee (f:=121) rfl (L ?_));refine cl (some 20) Try.func121 (impl_endNumber.calls _ _ _ _ _ _ _ _ _ _ S.c S.n A6) (hargs:=by (simp only [ma_,mb_,mc_,F] <;> rfl)) (h:=?_);rintro e W ⟨rfl,hb⟩;refine ⟨_,rfl,?_⟩;replace S:=S.go hb;clear F hb;have F:=S.fc) | ((with_reducible refine gs (t:=80) rfl (L ?_));refine sb (.agg #[_,_,_]) S sz80 ?_;(clear S F;intro W S;have F:=S.fc)))
   go_ret2
   exact ⟨(by first | rfl | (simp [e0_,e1_] <;> rfl) | (simp [*,e0_,e1_] <;> rfl)),S.below⟩
 · skip
   replace c4:=cbf c4;subst c4
   simp only [Option.some.injEq,Prod.mk.injEq] at H
   obtain ⟨rfl,rfl⟩:=H
   go_enter Try.func51,Try.ntmps51
   go_wp2_with (first | ((with_reducible refine gd 2 rfl (L ?_));refine bo 2 (.agg #[_,_,_]) S ?_;clear S F;intro gb1002 W S;have F:=S.fc) | ((with_reducible refine gate_callee (f:=134) rfl (L ?_));refine cl (some 10) Try.func134 (impl_validEntry.calls _ _ _ _ _ _ _ _ _ S.c S.n A3) (hargs:=by (simp only [ma_,mb_,mc_,F] <;> rfl)) (h:=?_);rintro e W ⟨rfl,hb⟩;refine ⟨_,rfl,?_⟩;replace S:=S.go hb;clear F hb;have F:=S.fc))
   go_ret2
   exact ⟨(by first | rfl | (simp [e0_,e1_] <;> rfl) | (simp [*,e0_,e1_] <;> rfl)),S.below⟩

/-! ### spec_l1Cur_cell: function 194 -/
def spec_l1Cur_cell.f (k:Nat) (s0_0:List Int) (s0_1:Int) (s0_2:Int):Option (Int × Int × Int × Int):=(spec_paAll.f k).bind fun t1011=>((spec_l1Cur_pick.f s0_0 s0_1 s0_2 (t1011.length:Int)).bind fun bt1014=>(if 0 ≤ bt1014.1 then (if bt1014.1 < (t1011.length:Int) then (some ((rd_T42 t1011 bt1014.1).f0,(rd_T42 t1011 bt1014.1).f1,bt1014.2.1,bt1014.2.2)) else (none)) else (none)))
theorem spec_l1Cur_cell.calls (k:Nat) (g:Nat) (s0_0:List Int) (s0_1:Int) (s0_2:Int) (r1:Int) (r2:Int) (r3:Int) (r4:Int) (As0_0:Option Addr) (cs0_0:Nat) (w0 w:World) (hI:w.heap[g]? = some (.cells #[.slice As0_0 s0_0.length cs0_0,.int .i64 s0_1,.int .u64 s0_2] 111 (0,0))) (hG:w0.heap.size ≤ g) (hS0_0:Kd.C (Kd.int .u8) w0 As0_0 s0_0.length s0_0) (hB:Below w0.heap.size w0 w) (h:spec_l1Cur_cell.f k s0_0 s0_1 s0_2 = some (r1,r2,r3,r4)) :
    Calls Try.prog 194 #[.pointer (some ⟨g,0,none⟩)] w fun e w'=>e = .returned (.agg #[.int .i64 r1,.int .i64 r2])∧w'.heap[g]? = some (.cells #[.slice As0_0 s0_0.length cs0_0,.int .i64 r3,.int .u64 r4] 111 (0,0))∧Below w0.heap.size w0 w'∧Kept w w' (fun k_=>k_ = g):=by
 have S:=St.boxed hB hG hI (dg (Kd.heap_int .u8) (atI .u8) hS0_0 hB hG dn)
 clear hI hB
 have F:=S.fc
 have H:=h;clear h;unfold spec_l1Cur_cell.f at H
 replace H:=Option.bind_eq_some_iff.mp H;obtain ⟨t1011,A2,H⟩:=H;(try dsimp only at H)
 replace H:=Option.bind_eq_some_iff.mp H;obtain ⟨⟨t1014,t1015,t1016⟩,A3,H⟩:=H;(try dsimp only at H)
 replace H:=np_ H;obtain ⟨c4,H⟩:=H
 replace H:=np_ H;obtain ⟨c5,H⟩:=H
 simp only [Option.some.injEq,Prod.mk.injEq] at H
 obtain ⟨rfl,rfl,rfl,rfl⟩:=H
 go_enter Try.func194,Try.ntmps194
 go_wp2_with (first | ((with_reducible refine gd 2 rfl (L ?_));refine al 2 S zi42 ?_;clear S F;intro gb1010 W S;have F:=S.fc) | ((with_reducible refine gate_callee (f:=189) rfl (L ?_));refine cl (some 4) Try.func189 (spec_paAll.calls _ _ _ A2) (hargs:=by (simp only [ma_,mb_,mc_,F] <;> rfl)) (h:=?_);rintro e W ⟨v1012,rfl,ho0,hb⟩;refine ⟨_,rfl,?_⟩;replace S:=S.got at42 hb ho0;obtain ⟨At1011,ct1011,rfl,S⟩:=S;clear F hb ho0;have F:=S.fc) | ((with_reducible refine gate_callee (f:=114) rfl (L ?_));refine cl (some 9) Try.func114 (spec_l1Cur_pick.calls g _ _ _ _ _ _ _ _ _ _ _ S.hb (S.hge g) hS0_0 S.below A3) (hargs:=by (simp only [ma_,mb_,mc_,F] <;> rfl)) (h:=?_);rintro e W ⟨rfl,hi,hb,hk⟩;refine ⟨_,rfl,?_⟩;obtain ⟨W_,hs_,hm_,S⟩:=S.mid g hi hb hk;replace S:=S.go hm_;clear F hi hb hk hs_ hm_ ;have F:=S.fc) | ((with_reducible refine gs (t:=42) rfl (L ?_));refine sb (.agg #[_,_]) S sz42 ?_;(clear S F;intro W S;have F:=S.fc)))
 refine bodyPost_ret (results_cell_row rfl _ _ gb1010 42 #[.int .i64 ((rd_T42 t1011 t1014).f0),.int .i64 ((rd_T42 t1011 t1014).f1)] (0,0) _ rfl S.hb Try.underlying42 rfl (by kernel_rfl)) rfl ?_
 exact ⟨(by first | rfl | (simp;done) | first | rfl | (simp [e0_,e1_] <;> rfl) | (simp [*,e0_,e1_] <;> rfl)),(by first | exact S.hb | simpa using S.hb (g:=g)),S.below,S.kept⟩

/-! ### spec_l1Cur_boardOf: function 192 -/
mutual
def spec_l1Cur_boardOf.l0:Nat→Int→Int→Int→List Int→Int→Int→Int→Int→List (S42)→Option (Int × Int × (List (S42)) × Int × Int)
  | 0,_,_,_,_,_,_,_,_,_=>none
  | k + 1,x1,x2,x8,x1000,x1001,x1002,x1020000,x1020001,x1020002=>if (x1020002.length:Int) < (wrap64 (x1 * x2)) then ((spec_l1Cur_one.f x1000 x1001 x1002 x8).bind fun bt1027=>(if bt1027.1 = true then (spec_l1Cur_boardOf.j1 k x1 x2 x8 true x1000 bt1027.2.1 bt1027.2.2 x1020000 x1020001 x1020002 0 0) else ((spec_l1Cur_one.f x1000 bt1027.2.1 bt1027.2.2 3).bind fun bt1030=>(spec_l1Cur_boardOf.j1 k x1 x2 x8 bt1030.1 x1000 bt1030.2.1 bt1030.2.2 x1020000 x1020001 x1020002 0 0)))) else (some (x1020000,x1020001,x1020002,x1001,x1002))
def spec_l1Cur_boardOf.j1:Nat→Int→Int→Int→Bool→List Int→Int→Int→Int→Int→List (S42)→Int→Int→Option (Int × Int × (List (S42)) × Int × Int)
  | 0,_,_,_,_,_,_,_,_,_,_,_,_=>none
  | k + 1,x1,x2,x8,x30,x1000,x1001,x1002,x1020000,x1020001,x1020002,x1027000,x1027001=>if x30 = true then ((spec_l1Cur_cell.f k x1000 x1001 x1002).bind fun bt1033=>(spec_l1Cur_boardOf.j2 k x1 x2 x8 x1000 bt1033.2.2.1 bt1033.2.2.2 x1020000 x1020001 x1020002 bt1033.1 bt1033.2.1)) else (spec_l1Cur_boardOf.j2 k x1 x2 x8 x1000 x1001 x1002 x1020000 x1020001 x1020002 x1027000 x1027001)
def spec_l1Cur_boardOf.j2:Nat→Int→Int→Int→List Int→Int→Int→Int→Int→List (S42)→Int→Int→Option (Int × Int × (List (S42)) × Int × Int)
  | 0,_,_,_,_,_,_,_,_,_,_,_=>none
  | k + 1,x1,x2,x8,x1000,x1001,x1002,x1020000,x1020001,x1020002,x1027000,x1027001=>if x1027000 = 5 then ((spec_l1Cur_one.f x1000 x1001 x1002 3).bind fun bt1037=>(if bt1037.1 = true then (if x1020002.length < 8796093022208 then (spec_l1Cur_boardOf.l0 k x1 x2 x8 x1000 bt1037.2.1 bt1037.2.2 x1020000 x1020001 (x1020002 ++ [(⟨x1027000,x1027001⟩:S42)])) else (none)) else ((spec_l1Cur_pick.f x1000 bt1037.2.1 bt1037.2.2 2).bind fun bt1043=>(if x1020002.length < 8796093022208 then (spec_l1Cur_boardOf.l0 k x1 x2 x8 x1000 bt1043.2.1 bt1043.2.2 x1020000 x1020001 (x1020002 ++ [(⟨3,bt1043.1⟩:S42)])) else (none))))) else (if x1020002.length < 8796093022208 then (spec_l1Cur_boardOf.l0 k x1 x2 x8 x1000 x1001 x1002 x1020000 x1020001 (x1020002 ++ [(⟨x1027000,x1027001⟩:S42)])) else (none))
end
def spec_l1Cur_boardOf.f (k:Nat) (s0_0:List Int) (s0_1:Int) (s0_2:Int) (a1:Int) (a2:Int):Option (Int × Int × (List (S42)) × Int × Int):=(spec_l1Cur_among.f s0_0 s0_1 s0_2 (([1,2,2]:List Int))).bind fun bt1023=>(spec_l1Cur_boardOf.l0 k a1 a2 bt1023.1 s0_0 bt1023.2.1 bt1023.2.2 a1 a2 ([]:List (S42)))
theorem spec_l1Cur_boardOf.calls (k:Nat) (g:Nat) (s0_0:List Int) (s0_1:Int) (s0_2:Int) (a1:Int) (a2:Int) (r1:Int) (r2:Int) (r3:List (S42)) (r4:Int) (r5:Int) (As0_0:Option Addr) (cs0_0:Nat) (w0 w:World) (hI:w.heap[g]? = some (.cells #[.slice As0_0 s0_0.length cs0_0,.int .i64 s0_1,.int .u64 s0_2] 111 (0,0))) (hG:w0.heap.size ≤ g) (hS0_0:Kd.C (Kd.int .u8) w0 As0_0 s0_0.length s0_0) (hB:Below w0.heap.size w0 w) (h:spec_l1Cur_boardOf.f k s0_0 s0_1 s0_2 a1 a2 = some (r1,r2,r3,r4,r5)) :
    Calls Try.prog 192 #[.pointer (some ⟨g,0,none⟩),.int .i64 a1,.int .i64 a2] w fun e w'=>∃ v2_:Value,e = .returned (.agg #[.int .i64 r1,.int .i64 r2,v2_])∧Kd.R k42 42 w' w.heap.size (fun _=>True) v2_ r3∧w'.heap[g]? = some (.cells #[.slice As0_0 s0_0.length cs0_0,.int .i64 r4,.int .u64 r5] 111 (0,0))∧Below w0.heap.size w0 w'∧Kept w w' (fun k_=>k_ = g):=by
 have S:=St.boxed hB hG hI (dg (Kd.heap_int .u8) (atI .u8) hS0_0 hB hG dn)
 clear hI hB
 have F:=S.fc
 have H:=h;clear h;unfold spec_l1Cur_boardOf.f at H
 (first | (with_reducible replace H:=ob_ H;obtain ⟨y1020,hy1020,H⟩:=H;(try dsimp only at H)) | (obtain ⟨y1020,hy1020⟩:∃ y_:List Int,y_ = (([1,2,2]:List Int)):=⟨_,rfl⟩;(try rw [← hy1020] at H);(try simp only [Option.bind_some] at H)));have Ny1020:=Aside0.mk hy1020;clear hy1020
 replace H:=Option.bind_eq_some_iff.mp H;obtain ⟨⟨t1023,t1024,t1025⟩,A4,H⟩:=H;(try dsimp only at H)
 go_enter Try.func192,Try.ntmps192
 go_wp2_with (first | ((with_reducible refine gd 6 rfl (L ?_));refine al 6 S zi30 ?_;clear S F;intro gb1018 W S;have F:=S.fc) | ((with_reducible refine gd 7 rfl (L ?_));refine al 7 S zi30 ?_;clear S F;intro gb1019 W S;have F:=S.fc) | ((with_reducible refine gd 14 rfl (L ?_));refine lia 14 (atI .i64) 3 S ([1,2,2]:List Int) (fun _ _=>(Reps.one (show Kd.M (Kd.int .i64) _ _ _ 1 [.int .i64 1] from rfl) (Reps.one (show Kd.M (Kd.int .i64) _ _ _ 2 [.int .i64 2] from rfl) (Reps.one (show Kd.M (Kd.int .i64) _ _ _ 2 [.int .i64 2] from rfl) (Reps.none _ _))))) (by first | (go_simp;done) | (go_simp;rfl)) ?_;clear S F;intro Ay1020 cy1020 W S;(try rw [← Ny1020.out] at S ⊢);have F:=S.fc) | ((with_reducible refine gate_callee (f:=118) rfl (L ?_));refine cl (some 15) Try.func118 (spec_l1Cur_among.calls g _ _ _ _ _ _ _ _ _ _ _ _ _ S.hb (S.hge g) hS0_0 S.below S.cg S.n A4) (hargs:=by (simp only [ma_,mb_,mc_,F] <;> rfl)) (h:=?_);rintro e W ⟨rfl,hi,hb,hk⟩;refine ⟨_,rfl,?_⟩;obtain ⟨W_,hs_,hm_,S⟩:=S.mid g hi hb hk;replace S:=S.go hm_;clear F hi hb hk hs_ hm_ ;(try rw [← Ny1020.out] at S);have F:=S.fc) | ((with_reducible refine gs (t:=30) rfl (L ?_));refine sb (.agg #[_,_,_]) S sz30 ?_;clear S F;intro W S;(try rw [← Ny1020.out] at S);have F:=S.fc))
 go_loopg [] k (fun kq w'=>∃ (x1001_1:Int) (x1002_1:Int) (x1020002_1:List (S42)) (Ax1020002_1:Option Addr) (cx1020002_1:Nat),spec_l1Cur_boardOf.l0 kq a1 a2 t1023 s0_0 x1001_1 x1002_1 a1 a2 x1020002_1 = some (r1,r2,r3,r4,r5)∧kq ≤ k∧St w0 w (fun k=>k = g) [bor (atI .u8) As0_0 s0_0.length s0_0] w'  [row at42 42 Ax1020002_1 x1020002_1.length cx1020002_1 x1020002_1,box gb1019 30 [.int .i64 a1,.int .i64 a2,.slice Ax1020002_1 x1020002_1.length cx1020002_1],box gb1018 30 [.int .i64 0,.int .i64 0,.slice none 0 0],box g 111 [.slice As0_0 s0_0.length cs0_0,.int .i64 x1001_1,.int .u64 x1002_1]])
 case atStart=>exact ⟨t1024,t1025,_,_,_,H,Nat.le_refl _,((S.nl (e:=42) at42).pm [0,2,3,4])⟩
 case round =>
  clear H S F
  obtain ⟨x1001_1,x1002_1,x1020002_1,Ax1020002_1,cx1020002_1,HA,HK1,S⟩:=hrel
  have F:=S.fc
  cases gk with
  | zero=>exact absurd HA (by simp [spec_l1Cur_boardOf.l0])
  | succ k1 =>
   have H:=HA;clear HA;simp only [spec_l1Cur_boardOf.l0,F] at H
   replace H:=sp_ H;rcases H with ⟨c14,H⟩ | ⟨c14,H⟩
   · skip
     go_upto_region 5 with (first | ((with_reducible refine gd 9 rfl (L ?_));refine al 9 S zi42 ?_;clear S F;intro gb1026 W S;have F:=S.fc) | ((with_reducible refine gs (t:=42) rfl (L ?_));refine sb (.agg #[_,_]) S sz42 ?_;clear S F;intro W S;(try rw [← Ny1020.out] at S);have F:=S.fc))
     (try simp only [Act.put,List.setIfInBounds_toArray,List.set_cons_zero,List.set_cons_succ])
     go_cut [30] (fun v30 wc=>∃ (kq:Nat) (x30_14:Bool) (x1001_14:Int) (x1002_14:Int),v30 = .bool x30_14∧spec_l1Cur_boardOf.j1 kq a1 a2 t1023 x30_14 s0_0 x1001_14 x1002_14 a1 a2 x1020002_1 0 0 = some (r1,r2,r3,r4,r5)∧kq ≤ k1∧St w0 w (fun k=>k = g) [bor (atI .u8) As0_0 s0_0.length s0_0] wc  [box gb1026 42 [.int .i64 0,.int .i64 0],row at42 42 Ax1020002_1 x1020002_1.length cx1020002_1 x1020002_1,box gb1019 30 [.int .i64 a1,.int .i64 a2,.slice Ax1020002_1 x1020002_1.length cx1020002_1],box gb1018 30 [.int .i64 0,.int .i64 0,.slice none 0 0],box g 111 [.slice As0_0 s0_0.length cs0_0,.int .i64 x1001_14,.int .u64 x1002_14]])
     case first =>
      replace H:=Option.bind_eq_some_iff.mp H;obtain ⟨⟨t1027,t1028,t1029⟩,A25,H⟩:=H;(try dsimp only at H)
      replace H:=sp_ H;rcases H with ⟨c26,H⟩ | ⟨c26,H⟩
      · skip
        subst c26
        go_wp2_with ((with_reducible refine gate_callee (f:=123) rfl (L ?_));refine cl (some 26) Try.func123 (spec_l1Cur_one.calls g _ _ _ _ _ _ _ _ _ _ _ S.hb (S.hge g) hS0_0 S.below A25) (hargs:=by (simp only [ma_,mb_,mc_,F] <;> rfl)) (h:=?_);rintro e W ⟨rfl,hi,hb,hk⟩;refine ⟨_,rfl,?_⟩;obtain ⟨W_,hs_,hm_,S⟩:=S.mid g hi hb hk;replace S:=S.go hm_;clear F hi hb hk hs_ hm_ ;(try rw [← Ny1020.out] at S);have F:=S.fc)
        go_meet
        case rel=>exact ⟨_,true,t1028,t1029,(by first | rfl | (simp;done) | (simp [*];done) | (rw [w6_ (by omega) (by omega)])),H,(by first | omega | exact Nat.le_refl _),S⟩
      · skip
        replace c26:=cbf c26;subst c26
        replace H:=Option.bind_eq_some_iff.mp H;obtain ⟨⟨t1030,t1031,t1032⟩,A28,H⟩:=H;(try dsimp only at H)
        go_wp2_with (first | ((with_reducible refine gate_callee (f:=123) rfl (L ?_));refine cl (some 26) Try.func123 (spec_l1Cur_one.calls g _ _ _ _ _ _ _ _ _ _ _ S.hb (S.hge g) hS0_0 S.below A25) (hargs:=by (simp only [ma_,mb_,mc_,F] <;> rfl)) (h:=?_);rintro e W ⟨rfl,hi,hb,hk⟩;refine ⟨_,rfl,?_⟩;obtain ⟨W_,hs_,hm_,S⟩:=S.mid g hi hb hk;replace S:=S.go hm_;clear F hi hb hk hs_ hm_ ;(try rw [← Ny1020.out] at S);have F:=S.fc) | (go_at_call 123;(try simp only [F]);refine (spec_l1Cur_one.calls g _ _ _ _ _ _ _ _ _ _ _ S.hb (S.hge g) hS0_0 S.below A28).mono ?_;rintro e W ⟨rfl,hi,hb,hk⟩;obtain ⟨W_,hs_,hm_,S⟩:=S.mid g hi hb hk;replace S:=S.go hm_;clear F hi hb hk hs_ hm_ ;(try rw [← Ny1020.out] at S);have F:=S.fc))
        go_meet
        case rel=>exact ⟨_,t1030,t1031,t1032,(by first | rfl | (simp;done) | (simp [*];done) | (rw [w6_ (by omega) (by omega)])),H,(by first | omega | exact Nat.le_refl _),S⟩
     case rest =>
      clear H S F
      obtain ⟨kq,x30_14,x1001_14,x1002_14,rfl,HA,HJ14,S⟩:=hcut
      have F:=S.fc
      cases kq with
      | zero=>exact absurd HA (by simp [spec_l1Cur_boardOf.j1])
      | succ kj14 =>
       have H:=HA;clear HA;simp only [spec_l1Cur_boardOf.j1,F] at H
       go_upto_if 30 with (fail)
       go_cut [] (fun wc=>∃ (kq:Nat) (x1001_30:Int) (x1002_30:Int) (x1027000_30:Int) (x1027001_30:Int),spec_l1Cur_boardOf.j2 kq a1 a2 t1023 s0_0 x1001_30 x1002_30 a1 a2 x1020002_1 x1027000_30 x1027001_30 = some (r1,r2,r3,r4,r5)∧kq ≤ kj14∧St w0 w (fun k=>k = g) [bor (atI .u8) As0_0 s0_0.length s0_0] wc  [box gb1026 42 [.int .i64 x1027000_30,.int .i64 x1027001_30],row at42 42 Ax1020002_1 x1020002_1.length cx1020002_1 x1020002_1,box gb1019 30 [.int .i64 a1,.int .i64 a2,.slice Ax1020002_1 x1020002_1.length cx1020002_1],box gb1018 30 [.int .i64 0,.int .i64 0,.slice none 0 0],box g 111 [.slice As0_0 s0_0.length cs0_0,.int .i64 x1001_30,.int .u64 x1002_30]])
       case first =>
        replace H:=sp_ H;rcases H with ⟨c32,H⟩ | ⟨c32,H⟩
        · skip
          subst c32
          replace H:=Option.bind_eq_some_iff.mp H;obtain ⟨⟨t1033,t1034,t1035,t1036⟩,A33,H⟩:=H;(try dsimp only at H)
          go_wp2_with (first | ((with_reducible refine gate_callee (f:=194) rfl (L ?_));refine cl (some 32) Try.func194 (spec_l1Cur_cell.calls _ g _ _ _ _ _ _ _ _ _ _ _ S.hb (S.hge g) hS0_0 S.below A33) (hargs:=by (simp only [ma_,mb_,mc_,F] <;> rfl)) (h:=?_);rintro e W ⟨rfl,hi,hb,hk⟩;refine ⟨_,rfl,?_⟩;obtain ⟨W_,hs_,hm_,S⟩:=S.mid g hi hb hk;replace S:=S.go hm_;clear F hi hb hk hs_ hm_ ;(try rw [← Ny1020.out] at S);have F:=S.fc) | ((with_reducible refine gs (t:=42) rfl (L ?_));refine sb (.agg #[_,_]) S sz42 ?_;clear S F;intro W S;(try rw [← Ny1020.out] at S);have F:=S.fc))
          go_meet
          case rel=>exact ⟨_,t1035,t1036,t1033,t1034,H,(by first | omega | exact Nat.le_refl _),S⟩
        · skip
          replace c32:=cbf c32;subst c32
          go_wp2
          go_meet
          case rel=>exact ⟨_,x1001_14,x1002_14,0,0,H,(by first | omega | exact Nat.le_refl _),S⟩
       case rest =>
        clear H S F
        obtain ⟨kq,x1001_30,x1002_30,x1027000_30,x1027001_30,HA,HJ30,S⟩:=hcut
        have F:=S.fc
        cases kq with
        | zero=>exact absurd HA (by simp [spec_l1Cur_boardOf.j2])
        | succ kj30 =>
         have H:=HA;clear HA;simp only [spec_l1Cur_boardOf.j2,F] at H
         replace H:=sp_ H;rcases H with ⟨c39,H⟩ | ⟨c39,H⟩
         · skip
           replace c39:=ceq c39
           replace H:=Option.bind_eq_some_iff.mp H;obtain ⟨⟨t1037,t1038,t1039⟩,A40,H⟩:=H;(try dsimp only at H)
           replace H:=sp_ H;rcases H with ⟨c41,H⟩ | ⟨c41,H⟩
           · skip
             subst c41
             replace H:=np_ H;obtain ⟨c42,H⟩:=H
             (first | (with_reducible replace H:=ob_ H;obtain ⟨y1040,hy1040,H⟩:=H;(try dsimp only at H)) | (obtain ⟨y1040,hy1040⟩:∃ y_:List (S42),y_ = (x1020002_1 ++ [(⟨x1027000_30,x1027001_30⟩:S42)]):=⟨_,rfl⟩;(try rw [← hy1040] at H);(try simp only [Option.bind_some] at H)));have Ny1040:=Aside0.mk hy1040;clear hy1040
             go_wp2_with (first | (go_at_call 123;(try simp only [F]);refine (spec_l1Cur_one.calls g _ _ _ _ _ _ _ _ _ _ _ S.hb (S.hge g) hS0_0 S.below A40).mono ?_;rintro e W ⟨rfl,hi,hb,hk⟩;obtain ⟨W_,hs_,hm_,S⟩:=S.mid g hi hb hk;replace S:=S.go hm_;clear F hi hb hk hs_ hm_ ;(try rw [← Ny1020.out] at S);(try rw [← Ny1040.out] at S);have F:=S.fc) | ((with_reducible refine gd 48 rfl (L ?_));refine apa (A:=Ax1020002_1) 48 S Try.underlying24 info42 ?_ (ho:=rfl) (hs:=rfl) (hx:=rfl);clear S F;intro Ay1040 cy1040 W S;(try rw [← Ny1020.out] at S ⊢);(try rw [← Ny1040.out] at S ⊢);have F:=S.fc) | ((with_reducible refine gs (t:=24) rfl (L ?_));refine sb (.slice _ _ _) S sz24 ?_;clear S F;intro W S;(try rw [← Ny1020.out] at S);(try rw [← Ny1040.out] at S);have F:=S.fc))
             go_roundg kj30
             case measure=>omega
             case rel=>exact ⟨t1038,t1039,y1040,_,_,H,(by first | omega | exact Nat.le_refl _),S.tl⟩
           · skip
             replace c41:=cbf c41;subst c41
             replace H:=Option.bind_eq_some_iff.mp H;obtain ⟨⟨t1043,t1044,t1045⟩,A55,H⟩:=H;(try dsimp only at H)
             replace H:=np_ H;obtain ⟨c56,H⟩:=H
             (first | (with_reducible replace H:=ob_ H;obtain ⟨y1046,hy1046,H⟩:=H;(try dsimp only at H)) | (obtain ⟨y1046,hy1046⟩:∃ y_:List (S42),y_ = (x1020002_1 ++ [(⟨3,t1043⟩:S42)]):=⟨_,rfl⟩;(try rw [← hy1046] at H);(try simp only [Option.bind_some] at H)));have Ny1046:=Aside0.mk hy1046;clear hy1046
             go_wp2_with (first | (go_at_call 123;(try simp only [F]);refine (spec_l1Cur_one.calls g _ _ _ _ _ _ _ _ _ _ _ S.hb (S.hge g) hS0_0 S.below A40).mono ?_;rintro e W ⟨rfl,hi,hb,hk⟩;obtain ⟨W_,hs_,hm_,S⟩:=S.mid g hi hb hk;replace S:=S.go hm_;clear F hi hb hk hs_ hm_ ;(try rw [← Ny1020.out] at S);(try rw [← Ny1046.out] at S);have F:=S.fc) | ((with_reducible refine gate_callee (f:=114) rfl (L ?_));refine cl (some 42) Try.func114 (spec_l1Cur_pick.calls g _ _ _ _ _ _ _ _ _ _ _ S.hb (S.hge g) hS0_0 S.below A55) (hargs:=by (simp only [ma_,mb_,mc_,F] <;> rfl)) (h:=?_);rintro e W ⟨rfl,hi,hb,hk⟩;refine ⟨_,rfl,?_⟩;obtain ⟨W_,hs_,hm_,S⟩:=S.mid g hi hb hk;replace S:=S.go hm_;clear F hi hb hk hs_ hm_ ;(try rw [← Ny1020.out] at S);(try rw [← Ny1046.out] at S);have F:=S.fc) | ((with_reducible refine gd 48 rfl (L ?_));refine apa (A:=Ax1020002_1) 48 S Try.underlying24 info42 ?_ (ho:=rfl) (hs:=rfl) (hx:=rfl);clear S F;intro Ay1046 cy1046 W S;(try rw [← Ny1020.out] at S ⊢);(try rw [← Ny1046.out] at S ⊢);have F:=S.fc) | ((with_reducible refine gs (t:=24) rfl (L ?_));refine sb (.slice _ _ _) S sz24 ?_;clear S F;intro W S;(try rw [← Ny1020.out] at S);(try rw [← Ny1046.out] at S);have F:=S.fc) | ((with_reducible refine gs (t:=42) rfl (L ?_));refine sb (.agg #[_,_]) S sz42 ?_;clear S F;intro W S;(try rw [← Ny1020.out] at S);(try rw [← Ny1046.out] at S);have F:=S.fc))
             go_roundg kj30
             case measure=>omega
             case rel=>exact ⟨t1044,t1045,y1046,_,_,H,(by first | omega | exact Nat.le_refl _),S.tl⟩
         · skip
           replace c39:=cne c39
           replace H:=np_ H;obtain ⟨c70,H⟩:=H
           (first | (with_reducible replace H:=ob_ H;obtain ⟨y1049,hy1049,H⟩:=H;(try dsimp only at H)) | (obtain ⟨y1049,hy1049⟩:∃ y_:List (S42),y_ = (x1020002_1 ++ [(⟨x1027000_30,x1027001_30⟩:S42)]):=⟨_,rfl⟩;(try rw [← hy1049] at H);(try simp only [Option.bind_some] at H)));have Ny1049:=Aside0.mk hy1049;clear hy1049
           go_wp2_with (first | ((with_reducible refine gd 48 rfl (L ?_));refine apa (A:=Ax1020002_1) 48 S Try.underlying24 info42 ?_ (ho:=rfl) (hs:=rfl) (hx:=rfl);clear S F;intro Ay1049 cy1049 W S;(try rw [← Ny1020.out] at S ⊢);(try rw [← Ny1049.out] at S ⊢);have F:=S.fc) | ((with_reducible refine gs (t:=24) rfl (L ?_));refine sb (.slice _ _ _) S sz24 ?_;clear S F;intro W S;(try rw [← Ny1020.out] at S);(try rw [← Ny1049.out] at S);have F:=S.fc))
           go_roundg kj30
           case measure=>omega
           case rel=>exact ⟨x1001_30,x1002_30,y1049,_,_,H,(by first | omega | exact Nat.le_refl _),S.tl⟩
   · skip
     simp only [Option.some.injEq,Prod.mk.injEq] at H
     obtain ⟨rfl,rfl,rfl,rfl,rfl⟩:=H
     go_wp2_with ((with_reducible refine gs (t:=30) rfl (L ?_));refine sb (.agg #[_,_,_]) S sz30 ?_;clear S F;intro W S;(try rw [← Ny1020.out] at S);have F:=S.fc)
     refine bodyPost_ret (results_cell_row rfl _ _ gb1018 30 #[.int .i64 a1,.int .i64 a2,.slice Ax1020002_1 x1020002_1.length cx1020002_1] (0,0) _ rfl S.hb Try.underlying30 rfl (by kernel_rfl)) rfl ?_
     exact ⟨_,(by first | rfl | (simp;done) | first | rfl | (simp [e0_,e1_] <;> rfl) | (simp [*,e0_,e1_] <;> rfl)),(by first | exact S.ru | exact Kd.R_nil _ _ _ _ _),(by first | exact S.hb | simpa using S.hb (g:=g)),S.below,S.kept⟩

/-! ### spec_l1Cur_board: function 190 -/
def spec_l1Cur_board.f (k:Nat) (s0_0:List Int) (s0_1:Int) (s0_2:Int):Option (Int × Int × (List (S42)) × Int × Int):=(spec_l1Cur_one.f s0_0 s0_1 s0_2 20).bind fun bt1053=>(if bt1053.1 = true then ((spec_l1Cur_among.f s0_0 bt1053.2.1 bt1053.2.2 (([1,10]:List Int))).bind fun bt1059=>((spec_l1Cur_among.f s0_0 bt1059.2.1 bt1059.2.2 (([1,9]:List Int))).bind fun bt1065=>((spec_l1Cur_boardOf.f k s0_0 bt1065.2.1 bt1065.2.2 bt1059.1 bt1065.1).bind fun bt1068=>(some (bt1068.1,bt1068.2.1,bt1068.2.2.1,bt1068.2.2.2.1,bt1068.2.2.2.2))))) else ((spec_l1Cur_pick.f s0_0 bt1053.2.1 bt1053.2.2 5).bind fun bt1075=>((spec_l1Cur_pick.f s0_0 bt1075.2.1 bt1075.2.2 5).bind fun bt1078=>((spec_l1Cur_boardOf.f k s0_0 bt1078.2.1 bt1078.2.2 (wrap64 (1 + bt1075.1)) (wrap64 (1 + bt1078.1))).bind fun bt1081=>(some (bt1081.1,bt1081.2.1,bt1081.2.2.1,bt1081.2.2.2.1,bt1081.2.2.2.2))))))
theorem spec_l1Cur_board.calls (k:Nat) (g:Nat) (s0_0:List Int) (s0_1:Int) (s0_2:Int) (r1:Int) (r2:Int) (r3:List (S42)) (r4:Int) (r5:Int) (As0_0:Option Addr) (cs0_0:Nat) (w0 w:World) (hI:w.heap[g]? = some (.cells #[.slice As0_0 s0_0.length cs0_0,.int .i64 s0_1,.int .u64 s0_2] 111 (0,0))) (hG:w0.heap.size ≤ g) (hS0_0:Kd.C (Kd.int .u8) w0 As0_0 s0_0.length s0_0) (hB:Below w0.heap.size w0 w) (h:spec_l1Cur_board.f k s0_0 s0_1 s0_2 = some (r1,r2,r3,r4,r5)) :
    Calls Try.prog 190 #[.pointer (some ⟨g,0,none⟩)] w fun e w'=>∃ v2_:Value,e = .returned (.agg #[.int .i64 r1,.int .i64 r2,v2_])∧Kd.R k42 42 w' w.heap.size (fun _=>True) v2_ r3∧w'.heap[g]? = some (.cells #[.slice As0_0 s0_0.length cs0_0,.int .i64 r4,.int .u64 r5] 111 (0,0))∧Below w0.heap.size w0 w'∧Kept w w' (fun k_=>k_ = g):=by
 have S:=St.boxed hB hG hI (dg (Kd.heap_int .u8) (atI .u8) hS0_0 hB hG dn)
 clear hI hB
 have F:=S.fc
 have H:=h;clear h;unfold spec_l1Cur_board.f at H
 replace H:=Option.bind_eq_some_iff.mp H;obtain ⟨⟨t1053,t1054,t1055⟩,A2,H⟩:=H;(try dsimp only at H)
 replace H:=sp_ H;rcases H with ⟨c3,H⟩ | ⟨c3,H⟩
 · skip
   subst c3
   (first | (with_reducible replace H:=ob_ H;obtain ⟨y1056,hy1056,H⟩:=H;(try dsimp only at H)) | (obtain ⟨y1056,hy1056⟩:∃ y_:List Int,y_ = (([1,10]:List Int)):=⟨_,rfl⟩;(try rw [← hy1056] at H);(try simp only [Option.bind_some] at H)));have Ny1056:=Aside0.mk hy1056;clear hy1056
   replace H:=Option.bind_eq_some_iff.mp H;obtain ⟨⟨t1059,t1060,t1061⟩,A4,H⟩:=H;(try dsimp only at H)
   (first | (with_reducible replace H:=ob_ H;obtain ⟨y1062,hy1062,H⟩:=H;(try dsimp only at H)) | (obtain ⟨y1062,hy1062⟩:∃ y_:List Int,y_ = (([1,9]:List Int)):=⟨_,rfl⟩;(try rw [← hy1062] at H);(try simp only [Option.bind_some] at H)));have Ny1062:=Aside0.mk hy1062;clear hy1062
   replace H:=Option.bind_eq_some_iff.mp H;obtain ⟨⟨t1065,t1066,t1067⟩,A5,H⟩:=H;(try dsimp only at H)
   replace H:=Option.bind_eq_some_iff.mp H;obtain ⟨⟨t1068,t1069,t1070,t1073,t1074⟩,A6,H⟩:=H;(try dsimp only at H)
   simp only [Option.some.injEq,Prod.mk.injEq] at H
   obtain ⟨rfl,rfl,rfl,rfl,rfl⟩:=H
   go_enter Try.func190,Try.ntmps190
   go_wp2_with (first | ((with_reducible refine gd 2 rfl (L ?_));refine al 2 S zi30 ?_;clear S F;intro gb1052 W S;have F:=S.fc) | ((with_reducible refine gate_callee (f:=123) rfl (L ?_));refine cl (some 4) Try.func123 (spec_l1Cur_one.calls g _ _ _ _ _ _ _ _ _ _ _ S.hb (S.hge g) hS0_0 S.below A2) (hargs:=by (simp only [ma_,mb_,mc_,F] <;> rfl)) (h:=?_);rintro e W ⟨rfl,hi,hb,hk⟩;refine ⟨_,rfl,?_⟩;obtain ⟨W_,hs_,hm_,S⟩:=S.mid g hi hb hk;replace S:=S.go hm_;clear F hi hb hk hs_ hm_ ;(try rw [← Ny1056.out] at S);(try rw [← Ny1062.out] at S);have F:=S.fc) | ((with_reducible refine gd 7 rfl (L ?_));refine lia 7 (atI .i64) 3 S ([1,10]:List Int) (fun _ _=>(Reps.one (show Kd.M (Kd.int .i64) _ _ _ 1 [.int .i64 1] from rfl) (Reps.one (show Kd.M (Kd.int .i64) _ _ _ 10 [.int .i64 10] from rfl) (Reps.none _ _)))) (by first | (go_simp;done) | (go_simp;rfl)) ?_;clear S F;intro Ay1056 cy1056 W S;(try rw [← Ny1056.out] at S ⊢);(try rw [← Ny1062.out] at S ⊢);have F:=S.fc) | ((with_reducible refine gate_callee (f:=118) rfl (L ?_));refine cl (some 8) Try.func118 (spec_l1Cur_among.calls g _ _ _ _ _ _ _ _ _ _ _ _ _ S.hb (S.hge g) hS0_0 S.below S.cg S.n A4) (hargs:=by (simp only [ma_,mb_,mc_,F] <;> rfl)) (h:=?_);rintro e W ⟨rfl,hi,hb,hk⟩;refine ⟨_,rfl,?_⟩;obtain ⟨W_,hs_,hm_,S⟩:=S.mid g hi hb hk;replace S:=S.go hm_;clear F hi hb hk hs_ hm_ ;(try rw [← Ny1056.out] at S);(try rw [← Ny1062.out] at S);have F:=S.fc) | ((with_reducible refine gd 10 rfl (L ?_));refine lia 10 (atI .i64) 3 S ([1,9]:List Int) (fun _ _=>(Reps.one (show Kd.M (Kd.int .i64) _ _ _ 1 [.int .i64 1] from rfl) (Reps.one (show Kd.M (Kd.int .i64) _ _ _ 9 [.int .i64 9] from rfl) (Reps.none _ _)))) (by first | (go_simp;done) | (go_simp;rfl)) ?_;clear S F;intro Ay1062 cy1062 W S;(try rw [← Ny1056.out] at S ⊢);(try rw [← Ny1062.out] at S ⊢);have F:=S.fc) | ((with_reducible refine gate_callee (f:=118) rfl (L ?_));refine cl (some 11) Try.func118 (spec_l1Cur_among.calls g _ _ _ _ _ _ _ _ _ _ _ _ _ S.hb (S.hge g) hS0_0 S.below S.cg S.n A5) (hargs:=by (simp only [ma_,mb_,mc_,F] <;> rfl)) (h:=?_);rintro e W ⟨rfl,hi,hb,hk⟩;refine ⟨_,rfl,?_⟩;obtain ⟨W_,hs_,hm_,S⟩:=S.mid g hi hb hk;replace S:=S.go hm_;clear F hi hb hk hs_ hm_ ;(try rw [← Ny1056.out] at S);(try rw [← Ny1062.out] at S);have F:=S.fc) | ((with_reducible refine gate_callee (f:=192) rfl (L ?_));refine cl (some 12) Try.func192 (spec_l1Cur_boardOf.calls _ g _ _ _ _ _ _ _ _ _ _ _ _ _ _ S.hb (S.hge g) hS0_0 S.below A6) (hargs:=by (simp only [ma_,mb_,mc_,F] <;> rfl)) (h:=?_);rintro e W ⟨v1071,rfl,ho0,hi,hb,hk⟩;refine ⟨_,rfl,?_⟩;obtain ⟨W_,hs_,hm_,S⟩:=S.mid g hi hb hk;rw [← hs_] at ho0;replace S:=S.got at42 hm_ ho0;obtain ⟨At1070,ct1070,rfl,S⟩:=S;clear F hi hb hk hs_ hm_ ho0;(try rw [← Ny1056.out] at S);(try rw [← Ny1062.out] at S);have F:=S.fc) | ((with_reducible refine gs (t:=30) rfl (L ?_));refine sb (.agg #[_,_,_]) S sz30 ?_;clear S F;intro W S;(try rw [← Ny1056.out] at S);(try rw [← Ny1062.out] at S);have F:=S.fc))
   refine bodyPost_ret (results_cell_row rfl _ _ gb1052 30 #[.int .i64 t1068,.int .i64 t1069,.slice At1070 t1070.length ct1070] (0,0) _ rfl S.hb Try.underlying30 rfl (by kernel_rfl)) rfl ?_
   exact ⟨_,(by first | rfl | (simp;done) | first | rfl | (simp [e0_,e1_] <;> rfl) | (simp [*,e0_,e1_] <;> rfl)),(by first | exact S.ru | exact Kd.R_nil _ _ _ _ _),(by first | exact S.hb | simpa using S.hb (g:=g)),S.below,S.kept⟩
 · skip
   replace c3:=cbf c3;subst c3
   replace H:=Option.bind_eq_some_iff.mp H;obtain ⟨⟨t1075,t1076,t1077⟩,A21,H⟩:=H;(try dsimp only at H)
   replace H:=Option.bind_eq_some_iff.mp H;obtain ⟨⟨t1078,t1079,t1080⟩,A22,H⟩:=H;(try dsimp only at H)
   replace H:=Option.bind_eq_some_iff.mp H;obtain ⟨⟨t1081,t1082,t1083,t1086,t1087⟩,A23,H⟩:=H;(try dsimp only at H)
   simp only [Option.some.injEq,Prod.mk.injEq] at H
   obtain ⟨rfl,rfl,rfl,rfl,rfl⟩:=H
   go_enter Try.func190,Try.ntmps190
   go_wp2_with (first | ((with_reducible refine gd 2 rfl (L ?_));refine al 2 S zi30 ?_;clear S F;intro gb1052 W S;have F:=S.fc) | ((with_reducible refine gate_callee (f:=123) rfl (L ?_));refine cl (some 4) Try.func123 (spec_l1Cur_one.calls g _ _ _ _ _ _ _ _ _ _ _ S.hb (S.hge g) hS0_0 S.below A2) (hargs:=by (simp only [ma_,mb_,mc_,F] <;> rfl)) (h:=?_);rintro e W ⟨rfl,hi,hb,hk⟩;refine ⟨_,rfl,?_⟩;obtain ⟨W_,hs_,hm_,S⟩:=S.mid g hi hb hk;replace S:=S.go hm_;clear F hi hb hk hs_ hm_ ;have F:=S.fc) | ((with_reducible refine gate_callee (f:=114) rfl (L ?_));refine cl (some 15) Try.func114 (spec_l1Cur_pick.calls g _ _ _ _ _ _ _ _ _ _ _ S.hb (S.hge g) hS0_0 S.below A21) (hargs:=by (simp only [ma_,mb_,mc_,F] <;> rfl)) (h:=?_);rintro e W ⟨rfl,hi,hb,hk⟩;refine ⟨_,rfl,?_⟩;obtain ⟨W_,hs_,hm_,S⟩:=S.mid g hi hb hk;replace S:=S.go hm_;clear F hi hb hk hs_ hm_ ;have F:=S.fc) | ((with_reducible refine gate_callee (f:=114) rfl (L ?_));refine cl (some 18) Try.func114 (spec_l1Cur_pick.calls g _ _ _ _ _ _ _ _ _ _ _ S.hb (S.hge g) hS0_0 S.below A22) (hargs:=by (simp only [ma_,mb_,mc_,F] <;> rfl)) (h:=?_);rintro e W ⟨rfl,hi,hb,hk⟩;refine ⟨_,rfl,?_⟩;obtain ⟨W_,hs_,hm_,S⟩:=S.mid g hi hb hk;replace S:=S.go hm_;clear F hi hb hk hs_ hm_ ;have F:=S.fc) | ((with_reducible refine gate_callee (f:=192) rfl (L ?_));refine cl (some 20) Try.func192 (spec_l1Cur_boardOf.calls _ g _ _ _ _ _ _ _ _ _ _ _ _ _ _ S.hb (S.hge g) hS0_0 S.below A23) (hargs:=by (simp only [ma_,mb_,mc_,F] <;> rfl)) (h:=?_);rintro e W ⟨v1084,rfl,ho0,hi,hb,hk⟩;refine ⟨_,rfl,?_⟩;obtain ⟨W_,hs_,hm_,S⟩:=S.mid g hi hb hk;rw [← hs_] at ho0;replace S:=S.got at42 hm_ ho0;obtain ⟨At1083,ct1083,rfl,S⟩:=S;clear F hi hb hk hs_ hm_ ho0;have F:=S.fc) | ((with_reducible refine gs (t:=30) rfl (L ?_));refine sb (.agg #[_,_,_]) S sz30 ?_;(clear S F;intro W S;have F:=S.fc)))
   refine bodyPost_ret (results_cell_row rfl _ _ gb1052 30 #[.int .i64 t1081,.int .i64 t1082,.slice At1083 t1083.length ct1083] (0,0) _ rfl S.hb Try.underlying30 rfl (by kernel_rfl)) rfl ?_
   exact ⟨_,(by first | rfl | (simp;done) | first | rfl | (simp [e0_,e1_] <;> rfl) | (simp [*,e0_,e1_] <;> rfl)),(by first | exact S.ru | exact Kd.R_nil _ _ _ _ _),(by first | exact S.hb | simpa using S.hb (g:=g)),S.below,S.kept⟩

/-! ### spec_l1Cur_anyCell: function 191 -/
def spec_l1Cur_anyCell.f (k:Nat) (s0_0:List Int) (s0_1:Int) (s0_2:Int):Option (Int × Int × Int × Int):=(spec_l1Cur_cell.f k s0_0 s0_1 s0_2).bind fun bt1089=>((spec_l1Cur_pick.f s0_0 bt1089.2.2.1 bt1089.2.2.2 20).bind fun bt1094=>(if bt1094.1 = 0 then ((spec_l1Cur_among.f s0_0 bt1094.2.1 bt1094.2.2 (([(-1),8]:List Int))).bind fun bt1100=>(some (bt1100.1,bt1089.2.1,bt1100.2.1,bt1100.2.2))) else (if bt1094.1 = 1 then ((spec_l1Cur_among.f s0_0 bt1094.2.1 bt1094.2.2 (([(-1),1,2]:List Int))).bind fun bt1106=>(some (bt1089.1,bt1106.1,bt1106.2.1,bt1106.2.2))) else (some (bt1089.1,bt1089.2.1,bt1094.2.1,bt1094.2.2)))))
theorem spec_l1Cur_anyCell.calls (k:Nat) (g:Nat) (s0_0:List Int) (s0_1:Int) (s0_2:Int) (r1:Int) (r2:Int) (r3:Int) (r4:Int) (As0_0:Option Addr) (cs0_0:Nat) (w0 w:World) (hI:w.heap[g]? = some (.cells #[.slice As0_0 s0_0.length cs0_0,.int .i64 s0_1,.int .u64 s0_2] 111 (0,0))) (hG:w0.heap.size ≤ g) (hS0_0:Kd.C (Kd.int .u8) w0 As0_0 s0_0.length s0_0) (hB:Below w0.heap.size w0 w) (h:spec_l1Cur_anyCell.f k s0_0 s0_1 s0_2 = some (r1,r2,r3,r4)) :
    Calls Try.prog 191 #[.pointer (some ⟨g,0,none⟩)] w fun e w'=>e = .returned (.agg #[.int .i64 r1,.int .i64 r2])∧w'.heap[g]? = some (.cells #[.slice As0_0 s0_0.length cs0_0,.int .i64 r3,.int .u64 r4] 111 (0,0))∧Below w0.heap.size w0 w'∧Kept w w' (fun k_=>k_ = g):=by
 have S:=St.boxed hB hG hI (dg (Kd.heap_int .u8) (atI .u8) hS0_0 hB hG dn)
 clear hI hB
 have F:=S.fc
 have H:=h;clear h;unfold spec_l1Cur_anyCell.f at H
 replace H:=Option.bind_eq_some_iff.mp H;obtain ⟨⟨t1089,t1090,t1091,t1092⟩,A2,H⟩:=H;(try dsimp only at H)
 replace H:=Option.bind_eq_some_iff.mp H;obtain ⟨⟨t1094,t1095,t1096⟩,A3,H⟩:=H;(try dsimp only at H)
 replace H:=sp_ H;rcases H with ⟨c4,H⟩ | ⟨c4,H⟩
 · skip
   replace c4:=ceq c4
   (first | (with_reducible replace H:=ob_ H;obtain ⟨y1097,hy1097,H⟩:=H;(try dsimp only at H)) | (obtain ⟨y1097,hy1097⟩:∃ y_:List Int,y_ = (([(-1),8]:List Int)):=⟨_,rfl⟩;(try rw [← hy1097] at H);(try simp only [Option.bind_some] at H)));have Ny1097:=Aside0.mk hy1097;clear hy1097
   replace H:=Option.bind_eq_some_iff.mp H;obtain ⟨⟨t1100,t1101,t1102⟩,A5,H⟩:=H;(try dsimp only at H)
   simp only [Option.some.injEq,Prod.mk.injEq] at H
   obtain ⟨rfl,rfl,rfl,rfl⟩:=H
   go_enter Try.func191,Try.ntmps191
   go_wp2_with (first | ((with_reducible refine gd 2 rfl (L ?_));refine al 2 S zi42 ?_;clear S F;intro gb1088 W S;have F:=S.fc) | ((with_reducible refine gate_callee (f:=194) rfl (L ?_));refine cl (some 5) Try.func194 (spec_l1Cur_cell.calls _ g _ _ _ _ _ _ _ _ _ _ _ S.hb (S.hge g) hS0_0 S.below A2) (hargs:=by (simp only [ma_,mb_,mc_,F] <;> rfl)) (h:=?_);rintro e W ⟨rfl,hi,hb,hk⟩;refine ⟨_,rfl,?_⟩;obtain ⟨W_,hs_,hm_,S⟩:=S.mid g hi hb hk;replace S:=S.go hm_;clear F hi hb hk hs_ hm_ ;(try rw [← Ny1097.out] at S);have F:=S.fc) | ((with_reducible refine gd 3 rfl (L ?_));refine al 3 S zi42 ?_;clear S F;intro gb1093 W S;have F:=S.fc) | ((with_reducible refine gate_callee (f:=114) rfl (L ?_));refine cl (some 7) Try.func114 (spec_l1Cur_pick.calls g _ _ _ _ _ _ _ _ _ _ _ S.hb (S.hge g) hS0_0 S.below A3) (hargs:=by (simp only [ma_,mb_,mc_,F] <;> rfl)) (h:=?_);rintro e W ⟨rfl,hi,hb,hk⟩;refine ⟨_,rfl,?_⟩;obtain ⟨W_,hs_,hm_,S⟩:=S.mid g hi hb hk;replace S:=S.go hm_;clear F hi hb hk hs_ hm_ ;(try rw [← Ny1097.out] at S);have F:=S.fc) | ((with_reducible refine gd 11 rfl (L ?_));refine lia 11 (atI .i64) 3 S ([(-1),8]:List Int) (fun _ _=>(Reps.one (show Kd.M (Kd.int .i64) _ _ _ (-1) [.int .i64 (-1)] from rfl) (Reps.one (show Kd.M (Kd.int .i64) _ _ _ 8 [.int .i64 8] from rfl) (Reps.none _ _)))) (by first | (go_simp;done) | (go_simp;rfl)) ?_;clear S F;intro Ay1097 cy1097 W S;(try rw [← Ny1097.out] at S ⊢);have F:=S.fc) | ((with_reducible refine gate_callee (f:=118) rfl (L ?_));refine cl (some 12) Try.func118 (spec_l1Cur_among.calls g _ _ _ _ _ _ _ _ _ _ _ _ _ S.hb (S.hge g) hS0_0 S.below S.cg S.n A5) (hargs:=by (simp only [ma_,mb_,mc_,F] <;> rfl)) (h:=?_);rintro e W ⟨rfl,hi,hb,hk⟩;refine ⟨_,rfl,?_⟩;obtain ⟨W_,hs_,hm_,S⟩:=S.mid g hi hb hk;replace S:=S.go hm_;clear F hi hb hk hs_ hm_ ;(try rw [← Ny1097.out] at S);have F:=S.fc) | ((with_reducible refine gs (t:=3) rfl (L ?_));refine sb (.int _ _) S sz3 ?_;clear S F;intro W S;(try rw [← Ny1097.out] at S);have F:=S.fc) | ((with_reducible refine gs (t:=42) rfl (L ?_));refine sb (.agg #[_,_]) S sz42 ?_;clear S F;intro W S;(try rw [← Ny1097.out] at S);have F:=S.fc))
   refine bodyPost_ret (results_cell_row rfl _ _ gb1088 42 #[.int .i64 t1100,.int .i64 t1090] (0,0) _ rfl S.hb Try.underlying42 rfl (by kernel_rfl)) rfl ?_
   exact ⟨(by first | rfl | (simp;done) | first | rfl | (simp [e0_,e1_] <;> rfl) | (simp [*,e0_,e1_] <;> rfl)),(by first | exact S.hb | simpa using S.hb (g:=g)),S.below,S.kept⟩
 · skip
   replace c4:=cne c4
   replace H:=sp_ H;rcases H with ⟨c20,H⟩ | ⟨c20,H⟩
   · skip
     replace c20:=ceq c20
     (first | (with_reducible replace H:=ob_ H;obtain ⟨y1103,hy1103,H⟩:=H;(try dsimp only at H)) | (obtain ⟨y1103,hy1103⟩:∃ y_:List Int,y_ = (([(-1),1,2]:List Int)):=⟨_,rfl⟩;(try rw [← hy1103] at H);(try simp only [Option.bind_some] at H)));have Ny1103:=Aside0.mk hy1103;clear hy1103
     replace H:=Option.bind_eq_some_iff.mp H;obtain ⟨⟨t1106,t1107,t1108⟩,A21,H⟩:=H;(try dsimp only at H)
     simp only [Option.some.injEq,Prod.mk.injEq] at H
     obtain ⟨rfl,rfl,rfl,rfl⟩:=H
     go_enter Try.func191,Try.ntmps191
     go_wp2_with (first | ((with_reducible refine gd 2 rfl (L ?_));refine al 2 S zi42 ?_;clear S F;intro gb1088 W S;have F:=S.fc) | ((with_reducible refine gate_callee (f:=194) rfl (L ?_));refine cl (some 5) Try.func194 (spec_l1Cur_cell.calls _ g _ _ _ _ _ _ _ _ _ _ _ S.hb (S.hge g) hS0_0 S.below A2) (hargs:=by (simp only [ma_,mb_,mc_,F] <;> rfl)) (h:=?_);rintro e W ⟨rfl,hi,hb,hk⟩;refine ⟨_,rfl,?_⟩;obtain ⟨W_,hs_,hm_,S⟩:=S.mid g hi hb hk;replace S:=S.go hm_;clear F hi hb hk hs_ hm_ ;(try rw [← Ny1103.out] at S);have F:=S.fc) | ((with_reducible refine gd 3 rfl (L ?_));refine al 3 S zi42 ?_;clear S F;intro gb1093 W S;have F:=S.fc) | ((with_reducible refine gate_callee (f:=114) rfl (L ?_));refine cl (some 7) Try.func114 (spec_l1Cur_pick.calls g _ _ _ _ _ _ _ _ _ _ _ S.hb (S.hge g) hS0_0 S.below A3) (hargs:=by (simp only [ma_,mb_,mc_,F] <;> rfl)) (h:=?_);rintro e W ⟨rfl,hi,hb,hk⟩;refine ⟨_,rfl,?_⟩;obtain ⟨W_,hs_,hm_,S⟩:=S.mid g hi hb hk;replace S:=S.go hm_;clear F hi hb hk hs_ hm_ ;(try rw [← Ny1103.out] at S);have F:=S.fc) | ((with_reducible refine gd 17 rfl (L ?_));refine lia 17 (atI .i64) 3 S ([(-1),1,2]:List Int) (fun _ _=>(Reps.one (show Kd.M (Kd.int .i64) _ _ _ (-1) [.int .i64 (-1)] from rfl) (Reps.one (show Kd.M (Kd.int .i64) _ _ _ 1 [.int .i64 1] from rfl) (Reps.one (show Kd.M (Kd.int .i64) _ _ _ 2 [.int .i64 2] from rfl) (Reps.none _ _))))) (by first | (go_simp;done) | (go_simp;rfl)) ?_;clear S F;intro Ay1103 cy1103 W S;(try rw [← Ny1103.out] at S ⊢);have F:=S.fc) | ((with_reducible refine gate_callee (f:=118) rfl (L ?_));refine cl (some 18) Try.func118 (spec_l1Cur_among.calls g _ _ _ _ _ _ _ _ _ _ _ _ _ S.hb (S.hge g) hS0_0 S.below S.cg S.n A21) (hargs:=by (simp only [ma_,mb_,mc_,F] <;> rfl)) (h:=?_);rintro e W ⟨rfl,hi,hb,hk⟩;refine ⟨_,rfl,?_⟩;obtain ⟨W_,hs_,hm_,S⟩:=S.mid g hi hb hk;replace S:=S.go hm_;clear F hi hb hk hs_ hm_ ;(try rw [← Ny1103.out] at S);have F:=S.fc) | ((with_reducible refine gs (t:=3) rfl (L ?_));refine sb (.int _ _) S sz3 ?_;clear S F;intro W S;(try rw [← Ny1103.out] at S);have F:=S.fc) | ((with_reducible refine gs (t:=42) rfl (L ?_));refine sb (.agg #[_,_]) S sz42 ?_;clear S F;intro W S;(try rw [← Ny1103.out] at S);have F:=S.fc))
     refine bodyPost_ret (results_cell_row rfl _ _ gb1088 42 #[.int .i64 t1089,.int .i64 t1106] (0,0) _ rfl S.hb Try.underlying42 rfl (by kernel_rfl)) rfl ?_
     exact ⟨(by first | rfl | (simp;done) | first | rfl | (simp [e0_,e1_] <;> rfl) | (simp [*,e0_,e1_] <;> rfl)),(by first | exact S.hb | simpa using S.hb (g:=g)),S.below,S.kept⟩
   · skip
     replace c20:=cne c20
     simp only [Option.some.injEq,Prod.mk.injEq] at H
     obtain ⟨rfl,rfl,rfl,rfl⟩:=H
     go_enter Try.func191,Try.ntmps191
     go_wp2_with (first | ((with_reducible refine gd 2 rfl (L ?_));refine al 2 S zi42 ?_;clear S F;intro gb1088 W S;have F:=S.fc) | ((with_reducible refine gate_callee (f:=194) rfl (L ?_));refine cl (some 5) Try.func194 (spec_l1Cur_cell.calls _ g _ _ _ _ _ _ _ _ _ _ _ S.hb (S.hge g) hS0_0 S.below A2) (hargs:=by (simp only [ma_,mb_,mc_,F] <;> rfl)) (h:=?_);rintro e W ⟨rfl,hi,hb,hk⟩;refine ⟨_,rfl,?_⟩;obtain ⟨W_,hs_,hm_,S⟩:=S.mid g hi hb hk;replace S:=S.go hm_;clear F hi hb hk hs_ hm_ ;have F:=S.fc) | ((with_reducible refine gd 3 rfl (L ?_));refine al 3 S zi42 ?_;clear S F;intro gb1093 W S;have F:=S.fc) | ((with_reducible refine gate_callee (f:=114) rfl (L ?_));refine cl (some 7) Try.func114 (spec_l1Cur_pick.calls g _ _ _ _ _ _ _ _ _ _ _ S.hb (S.hge g) hS0_0 S.below A3) (hargs:=by (simp only [ma_,mb_,mc_,F] <;> rfl)) (h:=?_);rintro e W ⟨rfl,hi,hb,hk⟩;refine ⟨_,rfl,?_⟩;obtain ⟨W_,hs_,hm_,S⟩:=S.mid g hi hb hk;replace S:=S.go hm_;clear F hi hb hk hs_ hm_ ;have F:=S.fc) | ((with_reducible refine gs (t:=42) rfl (L ?_));refine sb (.agg #[_,_]) S sz42 ?_;(clear S F;intro W S;have F:=S.fc)))
     refine bodyPost_ret (results_cell_row rfl _ _ gb1088 42 #[.int .i64 t1089,.int .i64 t1090] (0,0) _ rfl S.hb Try.underlying42 rfl (by kernel_rfl)) rfl ?_
     exact ⟨(by first | rfl | (simp;done) | first | rfl | (simp [e0_,e1_] <;> rfl) | (simp [*,e0_,e1_] <;> rfl)),(by first | exact S.hb | simpa using S.hb (g:=g)),S.below,S.kept⟩

/-! ### spec_l1Cur_anyBoard: function 136 -/
def spec_l1Cur_anyBoard.f (k:Nat) (s0_0:List Int) (s0_1:Int) (s0_2:Int):Option (Int × Int × (List (S42)) × Int × Int):=(spec_l1Cur_board.f k s0_0 s0_1 s0_2).bind fun bt1110=>((spec_l1Cur_pick.f s0_0 bt1110.2.2.2.1 bt1110.2.2.2.2 36).bind fun bt1118=>(if bt1118.1 = 0 then ((spec_l1Cur_among.f s0_0 bt1118.2.1 bt1118.2.2 (([0,wrap64 (bt1110.1 + 1),10,11]:List Int))).bind fun bt1124=>(some (bt1124.1,bt1110.2.1,bt1110.2.2.1,bt1124.2.1,bt1124.2.2))) else (if bt1118.1 = 1 then ((spec_l1Cur_among.f s0_0 bt1118.2.1 bt1118.2.2 (([0,wrap64 (bt1110.2.1 + 1),9,10]:List Int))).bind fun bt1130=>(some (bt1110.1,bt1130.1,bt1110.2.2.1,bt1130.2.1,bt1130.2.2))) else (if bt1118.1 = 2 then ((spec_l1Cur_pick.f s0_0 bt1118.2.1 bt1118.2.2 (bt1110.2.2.1.length:Int)).bind fun bt1133=>((spec_l1Cur_anyCell.f k s0_0 bt1133.2.1 bt1133.2.2).bind fun bt1136=>(if 0 ≤ bt1133.1 then (if bt1133.1 < (bt1110.2.2.1.length:Int) then (some (bt1110.1,bt1110.2.1,(bt1110.2.2.1.set (bt1133.1:Int).toNat (⟨bt1136.1,bt1136.2.1⟩:S42)),bt1136.2.2.1,bt1136.2.2.2)) else (none)) else (none)))) else (if bt1118.1 = 3 then (if 1 ≤ (bt1110.2.2.1.length:Int) then (some (bt1110.1,bt1110.2.1,(bt1110.2.2.1.drop (1:Int).toNat),bt1118.2.1,bt1118.2.2)) else (none)) else (if bt1118.1 = 4 then (if 22 ≤ 17592186044416 then (some (11,2,(List.replicate 22 z42),bt1118.2.1,bt1118.2.2)) else (none)) else (if bt1118.1 = 5 then (if 20 ≤ 17592186044416 then (some (2,10,(List.replicate 20 z42),bt1118.2.1,bt1118.2.2)) else (none)) else (some (bt1110.1,bt1110.2.1,bt1110.2.2.1,bt1118.2.1,bt1118.2.2)))))))))
theorem spec_l1Cur_anyBoard.calls (k:Nat) (g:Nat) (s0_0:List Int) (s0_1:Int) (s0_2:Int) (r1:Int) (r2:Int) (r3:List (S42)) (r4:Int) (r5:Int) (As0_0:Option Addr) (cs0_0:Nat) (w0 w:World) (hI:w.heap[g]? = some (.cells #[.slice As0_0 s0_0.length cs0_0,.int .i64 s0_1,.int .u64 s0_2] 111 (0,0))) (hG:w0.heap.size ≤ g) (hS0_0:Kd.C (Kd.int .u8) w0 As0_0 s0_0.length s0_0) (hB:Below w0.heap.size w0 w) (h:spec_l1Cur_anyBoard.f k s0_0 s0_1 s0_2 = some (r1,r2,r3,r4,r5)) :
    Calls Try.prog 136 #[.pointer (some ⟨g,0,none⟩)] w fun e w'=>∃ v2_:Value,e = .returned (.agg #[.int .i64 r1,.int .i64 r2,v2_])∧Kd.Q k42 42 w' w.heap.size (fun _=>True) v2_ r3∧w'.heap[g]? = some (.cells #[.slice As0_0 s0_0.length cs0_0,.int .i64 r4,.int .u64 r5] 111 (0,0))∧Below w0.heap.size w0 w'∧Kept w w' (fun k_=>k_ = g):=by
 have S:=St.boxed hB hG hI (dg (Kd.heap_int .u8) (atI .u8) hS0_0 hB hG dn)
 clear hI hB
 have F:=S.fc
 have H:=h;clear h;unfold spec_l1Cur_anyBoard.f at H
 replace H:=Option.bind_eq_some_iff.mp H;obtain ⟨⟨t1110,t1111,t1112,t1115,t1116⟩,A2,H⟩:=H;(try dsimp only at H)
 replace H:=Option.bind_eq_some_iff.mp H;obtain ⟨⟨t1118,t1119,t1120⟩,A3,H⟩:=H;(try dsimp only at H)
 replace H:=sp_ H;rcases H with ⟨c4,H⟩ | ⟨c4,H⟩
 · skip
   replace c4:=ceq c4
   (first | (with_reducible replace H:=ob_ H;obtain ⟨y1121,hy1121,H⟩:=H;(try dsimp only at H)) | (obtain ⟨y1121,hy1121⟩:∃ y_:List Int,y_ = (([0,wrap64 (t1110 + 1),10,11]:List Int)):=⟨_,rfl⟩;(try rw [← hy1121] at H);(try simp only [Option.bind_some] at H)));have Ny1121:=Aside0.mk hy1121;clear hy1121
   replace H:=Option.bind_eq_some_iff.mp H;obtain ⟨⟨t1124,t1125,t1126⟩,A5,H⟩:=H;(try dsimp only at H)
   simp only [Option.some.injEq,Prod.mk.injEq] at H
   obtain ⟨rfl,rfl,rfl,rfl,rfl⟩:=H
   go_enter Try.func136,Try.ntmps136
   go_wp2_with (first | ((with_reducible refine gd 2 rfl (L ?_));refine al 2 S zi30 ?_;clear S F;intro gb1109 W S;have F:=S.fc) | ((with_reducible refine gate_callee (f:=190) rfl (L ?_));refine cl (some 5) Try.func190 (spec_l1Cur_board.calls _ g _ _ _ _ _ _ _ _ _ _ _ _ S.hb (S.hge g) hS0_0 S.below A2) (hargs:=by first | (simp only [ma_,mb_,mc_,F] <;> rfl) | (simp only [ma_,mb_,mc_,F,List.length_take,List.length_drop];rw [Nat.min_eq_left] <;> first | rfl | omega)) (h:=?_);rintro e W ⟨v1113,rfl,ho0,hi,hb,hk⟩;refine ⟨_,rfl,?_⟩;obtain ⟨W_,hs_,hm_,S⟩:=S.mid g hi hb hk;rw [← hs_] at ho0;replace S:=S.got at42 hm_ ho0;obtain ⟨At1112,ct1112,rfl,S⟩:=S;clear F hi hb hk hs_ hm_ ho0;(try rw [← Ny1121.out] at S);have F:=S.fc) | ((with_reducible refine gd 3 rfl (L ?_));refine al 3 S zi30 ?_;clear S F;intro gb1117 W S;have F:=S.fc) | ((with_reducible refine gate_callee (f:=114) rfl (L ?_));refine cl (some 7) Try.func114 (spec_l1Cur_pick.calls g _ _ _ _ _ _ _ _ _ _ _ S.hb (S.hge g) hS0_0 S.below A3) (hargs:=by first | (simp only [ma_,mb_,mc_,F] <;> rfl) | (simp only [ma_,mb_,mc_,F,List.length_take,List.length_drop];rw [Nat.min_eq_left] <;> first | rfl | omega)) (h:=?_);rintro e W ⟨rfl,hi,hb,hk⟩;refine ⟨_,rfl,?_⟩;obtain ⟨W_,hs_,hm_,S⟩:=S.mid g hi hb hk;replace S:=S.go hm_;clear F hi hb hk hs_ hm_ ;(try rw [← Ny1121.out] at S);have F:=S.fc) | ((with_reducible refine gd 14 rfl (L ?_));refine lia 14 (atI .i64) 3 S ([0,wrap64 (t1110 + 1),10,11]:List Int) (fun _ _=>(Reps.one (show Kd.M (Kd.int .i64) _ _ _ 0 [.int .i64 0] from rfl) (Reps.one (show Kd.M (Kd.int .i64) _ _ _ (wrap64 (t1110 + 1)) [.int .i64 (wrap64 (t1110 + 1))] from rfl) (Reps.one (show Kd.M (Kd.int .i64) _ _ _ 10 [.int .i64 10] from rfl) (Reps.one (show Kd.M (Kd.int .i64) _ _ _ 11 [.int .i64 11] from rfl) (Reps.none _ _)))))) (by first | (go_simp;done) | (go_simp;rfl)) ?_;clear S F;intro Ay1121 cy1121 W S;(try rw [← Ny1121.out] at S ⊢);have F:=S.fc) | ((with_reducible refine gate_callee (f:=118) rfl (L ?_));refine cl (some 15) Try.func118 (spec_l1Cur_among.calls g _ _ _ _ _ _ _ _ _ _ _ _ _ S.hb (S.hge g) hS0_0 S.below S.cg S.n A5) (hargs:=by first | (simp only [ma_,mb_,mc_,F] <;> rfl) | (simp only [ma_,mb_,mc_,F,List.length_take,List.length_drop];rw [Nat.min_eq_left] <;> first | rfl | omega)) (h:=?_);rintro e W ⟨rfl,hi,hb,hk⟩;refine ⟨_,rfl,?_⟩;obtain ⟨W_,hs_,hm_,S⟩:=S.mid g hi hb hk;replace S:=S.go hm_;clear F hi hb hk hs_ hm_ ;(try rw [← Ny1121.out] at S);have F:=S.fc) | ((with_reducible refine gs (t:=3) rfl (L ?_));refine sb (.int _ _) S sz3 ?_;clear S F;intro W S;(try simp only [gd42] at S);(try rw [← Ny1121.out] at S);have F:=S.fc) | ((with_reducible refine gs (t:=30) rfl (L ?_));refine sb (.agg #[_,_,_]) S sz30 ?_;clear S F;intro W S;(try simp only [gd42] at S);(try rw [← Ny1121.out] at S);have F:=S.fc))
   refine bodyPost_ret (results_cell_row rfl _ _ gb1109 30 #[.int .i64 t1124,.int .i64 t1111,.slice At1112 t1112.length ct1112] (0,0) _ rfl S.hb Try.underlying30 rfl (by kernel_rfl)) rfl ?_
   exact ⟨_,(by first | rfl | (simp;done) | first | rfl | (simp [e0_,e1_] <;> rfl) | (simp [*,e0_,e1_] <;> rfl)),(by first | exact S.qu | exact Kd.Q_of_R S.ru | exact Kd.Q_nil _ _ _ _ _),(by first | exact S.hb | simpa using S.hb (g:=g)),S.below,S.kept⟩
 · skip
   replace c4:=cne c4
   replace H:=sp_ H;rcases H with ⟨c22,H⟩ | ⟨c22,H⟩
   · skip
     replace c22:=ceq c22
     (first | (with_reducible replace H:=ob_ H;obtain ⟨y1127,hy1127,H⟩:=H;(try dsimp only at H)) | (obtain ⟨y1127,hy1127⟩:∃ y_:List Int,y_ = (([0,wrap64 (t1111 + 1),9,10]:List Int)):=⟨_,rfl⟩;(try rw [← hy1127] at H);(try simp only [Option.bind_some] at H)));have Ny1127:=Aside0.mk hy1127;clear hy1127
     replace H:=Option.bind_eq_some_iff.mp H;obtain ⟨⟨t1130,t1131,t1132⟩,A23,H⟩:=H;(try dsimp only at H)
     simp only [Option.some.injEq,Prod.mk.injEq] at H
     obtain ⟨rfl,rfl,rfl,rfl,rfl⟩:=H
     go_enter Try.func136,Try.ntmps136
     go_wp2_with (first | ((with_reducible refine gd 2 rfl (L ?_));refine al 2 S zi30 ?_;clear S F;intro gb1109 W S;have F:=S.fc) | ((with_reducible refine gate_callee (f:=190) rfl (L ?_));refine cl (some 5) Try.func190 (spec_l1Cur_board.calls _ g _ _ _ _ _ _ _ _ _ _ _ _ S.hb (S.hge g) hS0_0 S.below A2) (hargs:=by first | (simp only [ma_,mb_,mc_,F] <;> rfl) | (simp only [ma_,mb_,mc_,F,List.length_take,List.length_drop];rw [Nat.min_eq_left] <;> first | rfl | omega)) (h:=?_);rintro e W ⟨v1113,rfl,ho0,hi,hb,hk⟩;refine ⟨_,rfl,?_⟩;obtain ⟨W_,hs_,hm_,S⟩:=S.mid g hi hb hk;rw [← hs_] at ho0;replace S:=S.got at42 hm_ ho0;obtain ⟨At1112,ct1112,rfl,S⟩:=S;clear F hi hb hk hs_ hm_ ho0;(try rw [← Ny1127.out] at S);have F:=S.fc) | ((with_reducible refine gd 3 rfl (L ?_));refine al 3 S zi30 ?_;clear S F;intro gb1117 W S;have F:=S.fc) | ((with_reducible refine gate_callee (f:=114) rfl (L ?_));refine cl (some 7) Try.func114 (spec_l1Cur_pick.calls g _ _ _ _ _ _ _ _ _ _ _ S.hb (S.hge g) hS0_0 S.below A3) (hargs:=by first | (simp only [ma_,mb_,mc_,F] <;> rfl) | (simp only [ma_,mb_,mc_,F,List.length_take,List.length_drop];rw [Nat.min_eq_left] <;> first | rfl | omega)) (h:=?_);rintro e W ⟨rfl,hi,hb,hk⟩;refine ⟨_,rfl,?_⟩;obtain ⟨W_,hs_,hm_,S⟩:=S.mid g hi hb hk;replace S:=S.go hm_;clear F hi hb hk hs_ hm_ ;(try rw [← Ny1127.out] at S);have F:=S.fc) | ((with_reducible refine gd 23 rfl (L ?_));refine lia 23 (atI .i64) 3 S ([0,wrap64 (t1111 + 1),9,10]:List Int) (fun _ _=>(Reps.one (show Kd.M (Kd.int .i64) _ _ _ 0 [.int .i64 0] from rfl) (Reps.one (show Kd.M (Kd.int .i64) _ _ _ (wrap64 (t1111 + 1)) [.int .i64 (wrap64 (t1111 + 1))] from rfl) (Reps.one (show Kd.M (Kd.int .i64) _ _ _ 9 [.int .i64 9] from rfl) (Reps.one (show Kd.M (Kd.int .i64) _ _ _ 10 [.int .i64 10] from rfl) (Reps.none _ _)))))) (by first | (go_simp;done) | (go_simp;rfl)) ?_;clear S F;intro Ay1127 cy1127 W S;(try rw [← Ny1127.out] at S ⊢);have F:=S.fc) | ((with_reducible refine gate_callee (f:=118) rfl (L ?_));refine cl (some 24) Try.func118 (spec_l1Cur_among.calls g _ _ _ _ _ _ _ _ _ _ _ _ _ S.hb (S.hge g) hS0_0 S.below S.cg S.n A23) (hargs:=by first | (simp only [ma_,mb_,mc_,F] <;> rfl) | (simp only [ma_,mb_,mc_,F,List.length_take,List.length_drop];rw [Nat.min_eq_left] <;> first | rfl | omega)) (h:=?_);rintro e W ⟨rfl,hi,hb,hk⟩;refine ⟨_,rfl,?_⟩;obtain ⟨W_,hs_,hm_,S⟩:=S.mid g hi hb hk;replace S:=S.go hm_;clear F hi hb hk hs_ hm_ ;(try rw [← Ny1127.out] at S);have F:=S.fc) | ((with_reducible refine gs (t:=3) rfl (L ?_));refine sb (.int _ _) S sz3 ?_;clear S F;intro W S;(try simp only [gd42] at S);(try rw [← Ny1127.out] at S);have F:=S.fc) | ((with_reducible refine gs (t:=30) rfl (L ?_));refine sb (.agg #[_,_,_]) S sz30 ?_;clear S F;intro W S;(try simp only [gd42] at S);(try rw [← Ny1127.out] at S);have F:=S.fc))
     refine bodyPost_ret (results_cell_row rfl _ _ gb1109 30 #[.int .i64 t1110,.int .i64 t1130,.slice At1112 t1112.length ct1112] (0,0) _ rfl S.hb Try.underlying30 rfl (by kernel_rfl)) rfl ?_
     exact ⟨_,(by first | rfl | (simp;done) | first | rfl | (simp [e0_,e1_] <;> rfl) | (simp [*,e0_,e1_] <;> rfl)),(by first | exact S.qu | exact Kd.Q_of_R S.ru | exact Kd.Q_nil _ _ _ _ _),(by first | exact S.hb | simpa using S.hb (g:=g)),S.below,S.kept⟩
   · skip
     replace c22:=cne c22
     replace H:=sp_ H;rcases H with ⟨c40,H⟩ | ⟨c40,H⟩
     · skip
       replace c40:=ceq c40
       replace H:=Option.bind_eq_some_iff.mp H;obtain ⟨⟨t1133,t1134,t1135⟩,A41,H⟩:=H;(try dsimp only at H)
       replace H:=Option.bind_eq_some_iff.mp H;obtain ⟨⟨t1136,t1137,t1138,t1139⟩,A42,H⟩:=H;(try dsimp only at H)
       replace H:=np_ H;obtain ⟨c43,H⟩:=H
       replace H:=np_ H;obtain ⟨c44,H⟩:=H
       (first | (with_reducible replace H:=ob_ H;obtain ⟨y1140,hy1140,H⟩:=H;(try dsimp only at H)) | (obtain ⟨y1140,hy1140⟩:∃ y_:List (S42),y_ = (t1112.set (t1133:Int).toNat (⟨t1136,t1137⟩:S42)):=⟨_,rfl⟩;(try rw [← hy1140] at H);(try simp only [Option.bind_some] at H)));have Ny1140:=Aside0.mk hy1140;clear hy1140
       simp only [Option.some.injEq,Prod.mk.injEq] at H
       obtain ⟨rfl,rfl,rfl,rfl,rfl⟩:=H
       go_enter Try.func136,Try.ntmps136
       go_wp2_with (first | ((with_reducible refine gd 2 rfl (L ?_));refine al 2 S zi30 ?_;clear S F;intro gb1109 W S;have F:=S.fc) | ((with_reducible refine gate_callee (f:=190) rfl (L ?_));refine cl (some 5) Try.func190 (spec_l1Cur_board.calls _ g _ _ _ _ _ _ _ _ _ _ _ _ S.hb (S.hge g) hS0_0 S.below A2) (hargs:=by first | (simp only [ma_,mb_,mc_,F] <;> rfl) | (simp only [ma_,mb_,mc_,F,List.length_take,List.length_drop];rw [Nat.min_eq_left] <;> first | rfl | omega)) (h:=?_);rintro e W ⟨v1113,rfl,ho0,hi,hb,hk⟩;refine ⟨_,rfl,?_⟩;obtain ⟨W_,hs_,hm_,S⟩:=S.mid g hi hb hk;rw [← hs_] at ho0;replace S:=S.got at42 hm_ ho0;obtain ⟨At1112,ct1112,rfl,S⟩:=S;clear F hi hb hk hs_ hm_ ho0;(try rw [← Ny1140.out] at S);have F:=S.fc) | ((with_reducible refine gd 3 rfl (L ?_));refine al 3 S zi30 ?_;clear S F;intro gb1117 W S;have F:=S.fc) | ((with_reducible refine gate_callee (f:=114) rfl (L ?_));refine cl (some 7) Try.func114 (spec_l1Cur_pick.calls g _ _ _ _ _ _ _ _ _ _ _ S.hb (S.hge g) hS0_0 S.below A3) (hargs:=by first | (simp only [ma_,mb_,mc_,F] <;> rfl) | (simp only [ma_,mb_,mc_,F,List.length_take,List.length_drop];rw [Nat.min_eq_left] <;> first | rfl | omega)) (h:=?_);rintro e W ⟨rfl,hi,hb,hk⟩;refine ⟨_,rfl,?_⟩;obtain ⟨W_,hs_,hm_,S⟩:=S.mid g hi hb hk;replace S:=S.go hm_;clear F hi hb hk hs_ hm_ ;(try rw [← Ny1140.out] at S);have F:=S.fc) | ((with_reducible refine gs (t:=30) rfl (L ?_));refine sb (.agg #[_,_,_]) S sz30 ?_;clear S F;intro W S;(try simp only [gd42] at S);(try rw [← Ny1140.out] at S);have F:=S.fc))
       refine rgP S (fun _ S=>(S.pm [0,1,2])) [(0,0),(0,2),(0,3),(0,7),(1,1),(1,4),(0,5),(2,6),(2,8),(0,9),(3,10)] [10] (by kernel_rfl) (by kernel_rfl) (fun _ d _ _ _ h=>by cases d <;> exact h) ?_;clear S F;intro W S;have S0:=(S.pm [0,1,2]);have F:=S.fc
       repeat (first | (refine q0 (h:=?_)) | (refine q1 S0 (h:=?_)))
       refine lk2 (by rfl) (by exact (Eq.refl true)) ?_;refine cl (some 34) Try.func114 (spec_l1Cur_pick.calls g _ _ _ _ _ _ _ _ _ _ _ S.hb (S.hge g) hS0_0 S.below A41) (hargs:=by first | (simp only [ma_,mb_,mc_,F] <;> rfl) | (simp only [ma_,mb_,mc_,F,List.length_take,List.length_drop];rw [Nat.min_eq_left] <;> first | rfl | omega)) (h:=?_);rintro e W ⟨rfl,hi,hb,hk⟩;refine ⟨_,rfl,?_⟩;obtain ⟨W_,hs_,hm_,S⟩:=S.mid g hi hb hk;replace S:=S.go hm_;clear F hi hb hk hs_ hm_ ;(try rw [← Ny1140.out] at S);have F:=S.fc
       clear S0;have S0:=(S.pm [0,1,2]);refine ⟨S0,?_⟩
       refine lk2 (by rfl) (by exact (Eq.refl true)) ?_;refine cl (some 36) Try.func191 (spec_l1Cur_anyCell.calls _ g _ _ _ _ _ _ _ _ _ _ _ S.hb (S.hge g) hS0_0 S.below A42) (hargs:=by first | (simp only [ma_,mb_,mc_,F] <;> rfl) | (simp only [ma_,mb_,mc_,F,List.length_take,List.length_drop];rw [Nat.min_eq_left] <;> first | rfl | omega)) (h:=?_);rintro e W ⟨rfl,hi,hb,hk⟩;refine ⟨_,rfl,?_⟩;obtain ⟨W_,hs_,hm_,S⟩:=S.mid g hi hb hk;replace S:=S.go hm_;clear F hi hb hk hs_ hm_ ;(try rw [← Ny1140.out] at S);have F:=S.fc
       clear S0;have S0:=(S.pm [0,1,2]);refine ⟨S0,?_⟩
       repeat ((refine q0 (h:=?_)))
       refine lk3 (by rfl) (by exact (Eq.refl true)) ?_;(first | refine sb (.int _ _) S sz3 ?_ | refine ro (.int _ _) S sz3 ?_ (ho:=rfl) (hx:=rfl) (hy:=rfl) | refine sb (.slice _ _ _) S sz24 ?_ | refine ro (.slice _ _ _) S sz24 ?_ (ho:=rfl) (hx:=rfl) (hy:=rfl) | refine sb (.agg #[_,_,_]) S sz30 ?_ | refine ro (.agg #[_,_,_]) S sz30 ?_ (ho:=rfl) (hx:=rfl) (hy:=rfl) | refine sb (.agg #[_,_]) S sz42 ?_ | refine ro (.agg #[_,_]) S sz42 ?_ (ho:=rfl) (hx:=rfl) (hy:=rfl));clear S F;intro W S;(try simp only [gd42] at S);(try rw [← Ny1140.out] at S);have F:=S.fc
       refine oz ?_
       try clear S0
       go_wp2_with ((with_reducible refine gs (t:=30) rfl (L ?_));refine sb (.agg #[_,_,_]) S sz30 ?_;clear S F;intro W S;(try simp only [gd42] at S);(try rw [← Ny1140.out] at S);have F:=S.fc)
       refine bodyPost_ret (results_cell_row rfl _ _ gb1109 30 #[.int .i64 t1110,.int .i64 t1111,.slice At1112 t1112.length ct1112] (0,0) _ rfl S.hb Try.underlying30 rfl (by kernel_rfl)) rfl ?_
       exact ⟨_,(by first | rfl | (simp;done) | first | rfl | (simp [e0_,e1_] <;> rfl) | (simp [*,e0_,e1_] <;> rfl)),(by first | exact S.qu | exact Kd.Q_of_R S.ru | exact Kd.Q_nil _ _ _ _ _),(by first | exact S.hb | simpa using S.hb (g:=g)),S.below,S.kept⟩
     · skip
       replace c40:=cne c40
       replace H:=sp_ H;rcases H with ⟨c62,H⟩ | ⟨c62,H⟩
       · skip
         replace c62:=ceq c62
         replace H:=np_ H;obtain ⟨c63,H⟩:=H
         (first | (with_reducible replace H:=ob_ H;obtain ⟨y1141,hy1141,H⟩:=H;(try dsimp only at H)) | (obtain ⟨y1141,hy1141⟩:∃ y_:List (S42),y_ = (t1112.drop (1:Int).toNat):=⟨_,rfl⟩;(try rw [← hy1141] at H);(try simp only [Option.bind_some] at H)));have Ny1141:=Aside0.mk hy1141;clear hy1141
         simp only [Option.some.injEq,Prod.mk.injEq] at H
         obtain ⟨rfl,rfl,rfl,rfl,rfl⟩:=H
         go_enter Try.func136,Try.ntmps136
         go_wp2_with (first | ((with_reducible refine gd 2 rfl (L ?_));refine al 2 S zi30 ?_;clear S F;intro gb1109 W S;have F:=S.fc) | ((with_reducible refine gate_callee (f:=190) rfl (L ?_));refine cl (some 5) Try.func190 (spec_l1Cur_board.calls _ g _ _ _ _ _ _ _ _ _ _ _ _ S.hb (S.hge g) hS0_0 S.below A2) (hargs:=by first | (simp only [ma_,mb_,mc_,F] <;> rfl) | (simp only [ma_,mb_,mc_,F,List.length_take,List.length_drop];rw [Nat.min_eq_left] <;> first | rfl | omega)) (h:=?_);rintro e W ⟨v1113,rfl,ho0,hi,hb,hk⟩;refine ⟨_,rfl,?_⟩;obtain ⟨W_,hs_,hm_,S⟩:=S.mid g hi hb hk;rw [← hs_] at ho0;replace S:=S.got at42 hm_ ho0;obtain ⟨At1112,ct1112,rfl,S⟩:=S;clear F hi hb hk hs_ hm_ ho0;(try rw [← Ny1141.out] at S);have F:=S.fc) | ((with_reducible refine gd 3 rfl (L ?_));refine al 3 S zi30 ?_;clear S F;intro gb1117 W S;have F:=S.fc) | ((with_reducible refine gate_callee (f:=114) rfl (L ?_));refine cl (some 7) Try.func114 (spec_l1Cur_pick.calls g _ _ _ _ _ _ _ _ _ _ _ S.hb (S.hge g) hS0_0 S.below A3) (hargs:=by first | (simp only [ma_,mb_,mc_,F] <;> rfl) | (simp only [ma_,mb_,mc_,F,List.length_take,List.length_drop];rw [Nat.min_eq_left] <;> first | rfl | omega)) (h:=?_);rintro e W ⟨rfl,hi,hb,hk⟩;refine ⟨_,rfl,?_⟩;obtain ⟨W_,hs_,hm_,S⟩:=S.mid g hi hb hk;replace S:=S.go hm_;clear F hi hb hk hs_ hm_ ;(try rw [← Ny1141.out] at S);have F:=S.fc;have hcut73:=cut_from (P:=Try.prog) 24 42 .i64 Try.underlying24 (info_parts info42).choose_spec.1 2 (info_parts info42).choose_spec.2.2.1 At1112 t1112.length ct1112 1 (by omega) (by omega);replace S:=S.tq At1112;obtain ⟨A73,c73,e_,S⟩:=S.dq At1112 (1:Int).toNat (by omega) 2 rfl y1141 Ny1141.out;rw [e_] at hcut73;clear e_ F;have F:=S.fc) | ((with_reducible refine gs (t:=24) rfl (L ?_));refine sb (.slice _ _ _) S sz24 ?_;clear S F;intro W S;(try simp only [gd42] at S);(try rw [← Ny1141.out] at S);have F:=S.fc) | ((with_reducible refine gs (t:=30) rfl (L ?_));refine sb (.agg #[_,_,_]) S sz30 ?_;clear S F;intro W S;(try simp only [gd42] at S);(try rw [← Ny1141.out] at S);have F:=S.fc))
         refine bodyPost_ret (results_cell_row rfl _ _ gb1109 30 #[.int .i64 t1110,.int .i64 t1111,.slice A73 y1141.length c73] (0,0) _ rfl S.hb Try.underlying30 rfl (by kernel_rfl)) rfl ?_
         exact ⟨_,(by first | rfl | (simp;done) | first | rfl | (simp [e0_,e1_] <;> rfl) | (simp [*,e0_,e1_] <;> rfl)),(by first | exact S.qu | exact Kd.Q_of_R S.ru | exact Kd.Q_nil _ _ _ _ _),(by first | exact S.hb | simpa using S.hb (g:=g)),S.below,S.kept⟩
       · skip
         replace c62:=cne c62
         replace H:=sp_ H;rcases H with ⟨c76,H⟩ | ⟨c76,H⟩
         · skip
           replace c76:=ceq c76
           replace H:=np_ H;obtain ⟨c77,H⟩:=H
           (first | (with_reducible replace H:=ob_ H;obtain ⟨y1144,hy1144,H⟩:=H;(try dsimp only at H)) | (obtain ⟨y1144,hy1144⟩:∃ y_:List (S42),y_ = (List.replicate 22 z42):=⟨_,rfl⟩;(try rw [← hy1144] at H);(try simp only [Option.bind_some] at H)));have Ny1144:=Aside0.mk hy1144;clear hy1144
           simp only [Option.some.injEq,Prod.mk.injEq] at H
           obtain ⟨rfl,rfl,rfl,rfl,rfl⟩:=H
           go_enter Try.func136,Try.ntmps136
           go_wp2_with (first | ((with_reducible refine gd 2 rfl (L ?_));refine al 2 S zi30 ?_;clear S F;intro gb1109 W S;have F:=S.fc) | ((with_reducible refine gate_callee (f:=190) rfl (L ?_));refine cl (some 5) Try.func190 (spec_l1Cur_board.calls _ g _ _ _ _ _ _ _ _ _ _ _ _ S.hb (S.hge g) hS0_0 S.below A2) (hargs:=by first | (simp only [ma_,mb_,mc_,F] <;> rfl) | (simp only [ma_,mb_,mc_,F,List.length_take,List.length_drop];rw [Nat.min_eq_left] <;> first | rfl | omega)) (h:=?_);rintro e W ⟨v1113,rfl,ho0,hi,hb,hk⟩;refine ⟨_,rfl,?_⟩;obtain ⟨W_,hs_,hm_,S⟩:=S.mid g hi hb hk;rw [← hs_] at ho0;replace S:=S.got at42 hm_ ho0;obtain ⟨At1112,ct1112,rfl,S⟩:=S;clear F hi hb hk hs_ hm_ ho0;(try rw [← Ny1144.out] at S);have F:=S.fc) | ((with_reducible refine gd 3 rfl (L ?_));refine al 3 S zi30 ?_;clear S F;intro gb1117 W S;have F:=S.fc) | ((with_reducible refine gate_callee (f:=114) rfl (L ?_));refine cl (some 7) Try.func114 (spec_l1Cur_pick.calls g _ _ _ _ _ _ _ _ _ _ _ S.hb (S.hge g) hS0_0 S.below A3) (hargs:=by first | (simp only [ma_,mb_,mc_,F] <;> rfl) | (simp only [ma_,mb_,mc_,F,List.length_take,List.length_drop];rw [Nat.min_eq_left] <;> first | rfl | omega)) (h:=?_);rintro e W ⟨rfl,hi,hb,hk⟩;refine ⟨_,rfl,?_⟩;obtain ⟨W_,hs_,hm_,S⟩:=S.mid g hi hb hk;replace S:=S.go hm_;clear F hi hb hk hs_ hm_ ;(try rw [← Ny1144.out] at S);have F:=S.fc) | ((with_reducible refine gd 46 rfl (L ?_));refine mka 46 at42 S Try.underlying24 info42 ?_;clear S F;intro Ay1144 cy1144 W S;(try simp only [Int.reduceToNat] at S ⊢);(try rw [← Ny1144.out] at S ⊢);have F:=S.fc) | ((with_reducible refine gs (t:=30) rfl (L ?_));refine sb (.agg #[_,_,_]) S sz30 ?_;clear S F;intro W S;(try simp only [gd42] at S);(try rw [← Ny1144.out] at S);have F:=S.fc))
           refine bodyPost_ret (results_cell_row rfl _ _ gb1109 30 #[.int .i64 11,.int .i64 2,.slice Ay1144 y1144.length cy1144] (0,0) _ rfl S.hb Try.underlying30 rfl (by kernel_rfl)) rfl ?_
           exact ⟨_,(by first | rfl | (simp;done) | first | rfl | (simp [e0_,e1_] <;> rfl) | (simp [*,e0_,e1_] <;> rfl)),(by first | exact S.qu | exact Kd.Q_of_R S.ru | exact Kd.Q_nil _ _ _ _ _),(by first | exact S.hb | simpa using S.hb (g:=g)),S.below,S.kept⟩
         · skip
           replace c76:=cne c76
           replace H:=sp_ H;rcases H with ⟨c92,H⟩ | ⟨c92,H⟩
           · skip
             replace c92:=ceq c92
             replace H:=np_ H;obtain ⟨c93,H⟩:=H
             (first | (with_reducible replace H:=ob_ H;obtain ⟨y1147,hy1147,H⟩:=H;(try dsimp only at H)) | (obtain ⟨y1147,hy1147⟩:∃ y_:List (S42),y_ = (List.replicate 20 z42):=⟨_,rfl⟩;(try rw [← hy1147] at H);(try simp only [Option.bind_some] at H)));have Ny1147:=Aside0.mk hy1147;clear hy1147
             simp only [Option.some.injEq,Prod.mk.injEq] at H
             obtain ⟨rfl,rfl,rfl,rfl,rfl⟩:=H
             go_enter Try.func136,Try.ntmps136
             go_wp2_with (first | ((with_reducible refine gd 2 rfl (L ?_));refine al 2 S zi30 ?_;clear S F;intro gb1109 W S;have F:=S.fc) | ((with_reducible refine gate_callee (f:=190) rfl (L ?_));refine cl (some 5) Try.func190 (spec_l1Cur_board.calls _ g _ _ _ _ _ _ _ _ _ _ _ _ S.hb (S.hge g) hS0_0 S.below A2) (hargs:=by first | (simp only [ma_,mb_,mc_,F] <;> rfl) | (simp only [ma_,mb_,mc_,F,List.length_take,List.length_drop];rw [Nat.min_eq_left] <;> first | rfl | omega)) (h:=?_);rintro e W ⟨v1113,rfl,ho0,hi,hb,hk⟩;refine ⟨_,rfl,?_⟩;obtain ⟨W_,hs_,hm_,S⟩:=S.mid g hi hb hk;rw [← hs_] at ho0;replace S:=S.got at42 hm_ ho0;obtain ⟨At1112,ct1112,rfl,S⟩:=S;clear F hi hb hk hs_ hm_ ho0;(try rw [← Ny1147.out] at S);have F:=S.fc) | ((with_reducible refine gd 3 rfl (L ?_));refine al 3 S zi30 ?_;clear S F;intro gb1117 W S;have F:=S.fc) | ((with_reducible refine gate_callee (f:=114) rfl (L ?_));refine cl (some 7) Try.func114 (spec_l1Cur_pick.calls g _ _ _ _ _ _ _ _ _ _ _ S.hb (S.hge g) hS0_0 S.below A3) (hargs:=by first | (simp only [ma_,mb_,mc_,F] <;> rfl) | (simp only [ma_,mb_,mc_,F,List.length_take,List.length_drop];rw [Nat.min_eq_left] <;> first | rfl | omega)) (h:=?_);rintro e W ⟨rfl,hi,hb,hk⟩;refine ⟨_,rfl,?_⟩;obtain ⟨W_,hs_,hm_,S⟩:=S.mid g hi hb hk;replace S:=S.go hm_;clear F hi hb hk hs_ hm_ ;(try rw [← Ny1147.out] at S);have F:=S.fc) | ((with_reducible refine gd 50 rfl (L ?_));refine mka 50 at42 S Try.underlying24 info42 ?_;clear S F;intro Ay1147 cy1147 W S;(try simp only [Int.reduceToNat] at S ⊢);(try rw [← Ny1147.out] at S ⊢);have F:=S.fc) | ((with_reducible refine gs (t:=30) rfl (L ?_));refine sb (.agg #[_,_,_]) S sz30 ?_;clear S F;intro W S;(try simp only [gd42] at S);(try rw [← Ny1147.out] at S);have F:=S.fc))
             refine bodyPost_ret (results_cell_row rfl _ _ gb1109 30 #[.int .i64 2,.int .i64 10,.slice Ay1147 y1147.length cy1147] (0,0) _ rfl S.hb Try.underlying30 rfl (by kernel_rfl)) rfl ?_
             exact ⟨_,(by first | rfl | (simp;done) | first | rfl | (simp [e0_,e1_] <;> rfl) | (simp [*,e0_,e1_] <;> rfl)),(by first | exact S.qu | exact Kd.Q_of_R S.ru | exact Kd.Q_nil _ _ _ _ _),(by first | exact S.hb | simpa using S.hb (g:=g)),S.below,S.kept⟩
           · skip
             replace c92:=cne c92
             simp only [Option.some.injEq,Prod.mk.injEq] at H
             obtain ⟨rfl,rfl,rfl,rfl,rfl⟩:=H
             go_enter Try.func136,Try.ntmps136
             go_wp2_with (first | ((with_reducible refine gd 2 rfl (L ?_));refine al 2 S zi30 ?_;clear S F;intro gb1109 W S;have F:=S.fc) | ((with_reducible refine gate_callee (f:=190) rfl (L ?_));refine cl (some 5) Try.func190 (spec_l1Cur_board.calls _ g _ _ _ _ _ _ _ _ _ _ _ _ S.hb (S.hge g) hS0_0 S.below A2) (hargs:=by first | (simp only [ma_,mb_,mc_,F] <;> rfl) | (simp only [ma_,mb_,mc_,F,List.length_take,List.length_drop];rw [Nat.min_eq_left] <;> first | rfl | omega)) (h:=?_);rintro e W ⟨v1113,rfl,ho0,hi,hb,hk⟩;refine ⟨_,rfl,?_⟩;obtain ⟨W_,hs_,hm_,S⟩:=S.mid g hi hb hk;rw [← hs_] at ho0;replace S:=S.got at42 hm_ ho0;obtain ⟨At1112,ct1112,rfl,S⟩:=S;clear F hi hb hk hs_ hm_ ho0;have F:=S.fc) | ((with_reducible refine gd 3 rfl (L ?_));refine al 3 S zi30 ?_;clear S F;intro gb1117 W S;have F:=S.fc) | ((with_reducible refine gate_callee (f:=114) rfl (L ?_));refine cl (some 7) Try.func114 (spec_l1Cur_pick.calls g _ _ _ _ _ _ _ _ _ _ _ S.hb (S.hge g) hS0_0 S.below A3) (hargs:=by first | (simp only [ma_,mb_,mc_,F] <;> rfl) | (simp only [ma_,mb_,mc_,F,List.length_take,List.length_drop];rw [Nat.min_eq_left] <;> first | rfl | omega)) (h:=?_);rintro e W ⟨rfl,hi,hb,hk⟩;refine ⟨_,rfl,?_⟩;obtain ⟨W_,hs_,hm_,S⟩:=S.mid g hi hb hk;replace S:=S.go hm_;clear F hi hb hk hs_ hm_ ;have F:=S.fc) | ((with_reducible refine gs (t:=30) rfl (L ?_));refine sb (.agg #[_,_,_]) S sz30 ?_;clear S F;intro W S;(try simp only [gd42] at S);have F:=S.fc))
             refine bodyPost_ret (results_cell_row rfl _ _ gb1109 30 #[.int .i64 t1110,.int .i64 t1111,.slice At1112 t1112.length ct1112] (0,0) _ rfl S.hb Try.underlying30 rfl (by kernel_rfl)) rfl ?_
             exact ⟨_,(by first | rfl | (simp;done) | first | rfl | (simp [e0_,e1_] <;> rfl) | (simp [*,e0_,e1_] <;> rfl)),(by first | exact S.qu | exact Kd.Q_of_R S.ru | exact Kd.Q_nil _ _ _ _ _),(by first | exact S.hb | simpa using S.hb (g:=g)),S.below,S.kept⟩

/-! ### spec_DrawMeetsChallenge: function 52 -/
def spec_DrawMeetsChallenge.j0:Nat→Bool→List Int→Int→Int→Int→Int→List (S42)→List Int→List Int→Option (Int × Int × (List (S42)) × List Int × List Int × Int × Int × (List (S42)))
  | 0,_,_,_,_,_,_,_,_,_=>none
  | k + 1,x17,x1153000,x1153001,x1153002,x1167000,x1167001,x1167002,x1167003,x1167004=>if x17 = true then ((spec_l1Cur_anyBoard.f k x1153000 x1153001 x1153002).bind fun bt1171=>(some (x1167000,x1167001,x1167002,x1167003,x1167004,bt1171.1,bt1171.2.1,bt1171.2.2.1))) else ((spec_syTried.f k x1167000 x1167001 x1167002 x1167003 x1167004).bind fun t1178=>((spec_l1Cur_pick.f x1153000 x1153001 x1153002 t1178).bind fun bt1179=>((spec_syBoard.f k x1167000 x1167001 x1167002 x1167003 x1167004 bt1179.1).bind fun bt1182=>(some (x1167000,x1167001,x1167002,x1167003,x1167004,bt1182.1,bt1182.2.1,bt1182.2.2)))))
def spec_DrawMeetsChallenge.f (k:Nat) (l0:List Int):Option (Int × Int × (List (S42)) × List Int × List Int × Int × Int × (List (S42))):=(spec_l1Cur_anyChallenge.f k l0 0 0).bind fun bt1153=>((spec_syGood.f k bt1153.1 bt1153.2.1 bt1153.2.2.1 bt1153.2.2.2.1 bt1153.2.2.2.2.1).bind fun t1167=>(if t1167 = true then ((spec_l1Cur_one.f l0 bt1153.2.2.2.2.2.1 bt1153.2.2.2.2.2.2 8).bind fun bt1168=>(spec_DrawMeetsChallenge.j0 k bt1168.1 l0 bt1168.2.1 bt1168.2.2 bt1153.1 bt1153.2.1 bt1153.2.2.1 bt1153.2.2.2.1 bt1153.2.2.2.2.1)) else (spec_DrawMeetsChallenge.j0 k true l0 bt1153.2.2.2.2.2.1 bt1153.2.2.2.2.2.2 bt1153.1 bt1153.2.1 bt1153.2.2.1 bt1153.2.2.2.1 bt1153.2.2.2.2.1)))
theorem spec_DrawMeetsChallenge.calls (k:Nat) (A0:Option Addr) (c0:Nat) (l0:List Int) (r1:Int) (r2:Int) (r3:List (S42)) (r4:List Int) (r5:List Int) (r6:Int) (r7:Int) (r8:List (S42)) (w:World) (hr0:Kd.C (Kd.int .u8) w A0 l0.length l0) (hc0:l0.length ≤ c0) (h:spec_DrawMeetsChallenge.f k l0 = some (r1,r2,r3,r4,r5,r6,r7,r8)) :
    Calls Try.prog 52 #[.slice A0 l0.length c0] w fun e w'=>∃ v2_ v3_ v4_ v7_:Value,e = .returned (.tuple #[.agg #[.int .i64 r1,.int .i64 r2,v2_,v3_,v4_],.agg #[.int .i64 r6,.int .i64 r7,v7_]])∧Kd.R k42 42 w' w.heap.size (fun k_=>some k_ ≠ (v7_:Value).ownBlock) v2_ r3∧Kd.R (Kd.int .i64) 3 w' w.heap.size (fun k_=>some k_ ≠ (v4_:Value).ownBlock) v3_ r4∧Kd.R (Kd.int .i64) 3 w' w.heap.size (fun k_=>some k_ ≠ (v3_:Value).ownBlock) v4_ r5∧Kd.Q k42 42 w' w.heap.size (fun k_=>some k_ ≠ (v2_:Value).ownBlock) v7_ r8∧Below w.heap.size w w':=by
 have S:=St.init (w:=w) (dc (Kd.heap_int .u8) (atI .u8) hr0 hc0 dn)
 clear hc0
 have F:=S.fc
 have H:=h;clear h;unfold spec_DrawMeetsChallenge.f at H
 replace H:=Option.bind_eq_some_iff.mp H;obtain ⟨⟨t1153,t1154,t1155,t1158,t1161,t1164,t1165⟩,A2,H⟩:=H;(try dsimp only at H)
 go_enter Try.func52,Try.ntmps52
 go_upto_region 3 with (first | ((with_reducible refine gd 2 rfl (L ?_));refine al 2 S zi27 ?_;clear S F;intro gb1150 W S;have F:=S.fc) | ((with_reducible refine gd 3 rfl (L ?_));refine al 3 S zi30 ?_;clear S F;intro gb1151 W S;have F:=S.fc) | ((with_reducible refine gd 8 rfl (L ?_));refine bo 8 (.agg #[_,_,_]) S ?_;clear S F;intro gb1152 W S;have F:=S.fc) | ((with_reducible refine gate_callee (f:=135) rfl (L ?_));refine cl (some 10) Try.func135 (spec_l1Cur_anyChallenge.calls _ gb1152 _ _ _ _ _ _ _ _ _ _ _ _ _ _ S.hb (S.hge gb1152) hr0 S.below A2) (hargs:=by (simp only [ma_,mb_,mc_,F] <;> rfl)) (h:=?_);rintro e W ⟨v1156,v1159,v1162,rfl,ho0,ho1,ho2,hi,hb,hk⟩;refine ⟨_,rfl,?_⟩;obtain ⟨W_,hs_,hm_,S⟩:=S.mid gb1152 hi hb hk;rw [← hs_] at ho0;rw [← hs_] at ho1;rw [← hs_] at ho2;replace S:=S.got3i at42 (atI .i64) (atI .i64) hm_ ho0 ho1 ho2 (by decide);obtain ⟨At1155,ct1155,At1158,ct1158,At1161,ct1161,rfl,rfl,rfl,S⟩:=S;clear F hi hb hk hs_ hm_ ho0 ho1 ho2;have F:=S.fc) | ((with_reducible refine gd 5 rfl (L ?_));refine al 5 S zi27 ?_;clear S F;intro gb1166 W S;have F:=S.fc) | ((with_reducible refine gs (t:=27) rfl (L ?_));(first | refine sb (.agg #[_,_,_,_,_]) S sz27 ?_ | refine ro (.agg #[_,_,_,_,_]) S sz27 ?_ (ho:=rfl) (hx:=rfl) (hy:=rfl));(clear S F;intro W S;have F:=S.fc)) | ((with_reducible refine gs (t:=30) rfl (L ?_));(first | refine sb (.agg #[_,_,_]) S sz30 ?_ | refine ro (.agg #[_,_,_]) S sz30 ?_ (ho:=rfl) (hx:=rfl) (hy:=rfl));(clear S F;intro W S;have F:=S.fc)))
 (try simp only [Act.put,List.setIfInBounds_toArray,List.set_cons_zero,List.set_cons_succ])
 go_cut [17] (fun v17 wc=>∃ (kq:Nat) (x17_2:Bool) (x1153001_2:Int) (x1153002_2:Int),v17 = .bool x17_2∧spec_DrawMeetsChallenge.j0 kq x17_2 l0 x1153001_2 x1153002_2 t1153 t1154 t1155 t1158 t1161 = some (r1,r2,r3,r4,r5,r6,r7,r8)∧kq ≤ k∧St w w (fun _=>False) [bor (atI .u8) A0 c0 l0] wc  [box gb1166 27 [.int .i64 t1153,.int .i64 t1154,.slice At1155 t1155.length ct1155,.slice At1158 t1158.length ct1158,.slice At1161 t1161.length ct1161],row (atI .i64) 3 At1161 t1161.length ct1161 t1161,row (atI .i64) 3 At1158 t1158.length ct1158 t1158,row at42 42 At1155 t1155.length ct1155 t1155,box gb1152 111 [.slice A0 l0.length c0,.int .i64 x1153001_2,.int .u64 x1153002_2],box gb1151 30 [.int .i64 0,.int .i64 0,.slice none 0 0],box gb1150 27 [.int .i64 0,.int .i64 0,.slice none 0 0,.slice none 0 0,.slice none 0 0]])
 case first =>
  replace H:=Option.bind_eq_some_iff.mp H;obtain ⟨t1167,A16,H⟩:=H;(try dsimp only at H)
  replace H:=sp_ H;rcases H with ⟨c17,H⟩ | ⟨c17,H⟩
  · skip
    subst c17
    replace H:=Option.bind_eq_some_iff.mp H;obtain ⟨⟨t1168,t1169,t1170⟩,A18,H⟩:=H;(try dsimp only at H)
    go_wp2_with (first | ((with_reducible refine gate_callee (f:=93) rfl (L ?_));refine cl (some 12) Try.func93 (spec_syGood.calls _ _ _ _ _ _ _ _ _ _ _ _ _ _ S.c S.n S.c S.n S.c S.n A16) (hargs:=by (simp only [ma_,mb_,mc_,F] <;> rfl)) (h:=?_);rintro e W ⟨rfl,hb⟩;refine ⟨_,rfl,?_⟩;replace S:=S.go hb;clear F hb;have F:=S.fc) | (go_at_call 123;(try simp only [F]);refine (spec_l1Cur_one.calls gb1152 _ _ _ _ _ _ _ _ _ _ _ S.hb (S.hge gb1152) hr0 S.below A18).mono ?_;rintro e W ⟨rfl,hi,hb,hk⟩;obtain ⟨W_,hs_,hm_,S⟩:=S.mid gb1152 hi hb hk;replace S:=S.go hm_;clear F hi hb hk hs_ hm_ ;have F:=S.fc) | ((with_reducible refine gs (t:=27) rfl (L ?_));(first | refine sb (.agg #[_,_,_,_,_]) S sz27 ?_ | refine ro (.agg #[_,_,_,_,_]) S sz27 ?_ (ho:=rfl) (hx:=rfl) (hy:=rfl));(clear S F;intro W S;have F:=S.fc)) | ((with_reducible refine gs (t:=30) rfl (L ?_));(first | refine sb (.agg #[_,_,_]) S sz30 ?_ | refine ro (.agg #[_,_,_]) S sz30 ?_ (ho:=rfl) (hx:=rfl) (hy:=rfl));(clear S F;intro W S;have F:=S.fc)))
    go_meet
    case rel=>exact ⟨_,t1168,t1169,t1170,(by first | rfl | (simp;done) | (simp [*];done) | (rw [w6_ (by omega) (by omega)])),H,(by first | omega | exact Nat.le_refl _),S⟩
  · skip
    replace c17:=cbf c17;subst c17
    go_wp2_with (first | ((with_reducible refine gate_callee (f:=93) rfl (L ?_));refine cl (some 12) Try.func93 (spec_syGood.calls _ _ _ _ _ _ _ _ _ _ _ _ _ _ S.c S.n S.c S.n S.c S.n A16) (hargs:=by (simp only [ma_,mb_,mc_,F] <;> rfl)) (h:=?_);rintro e W ⟨rfl,hb⟩;refine ⟨_,rfl,?_⟩;replace S:=S.go hb;clear F hb;have F:=S.fc) | ((with_reducible refine gs (t:=27) rfl (L ?_));(first | refine sb (.agg #[_,_,_,_,_]) S sz27 ?_ | refine ro (.agg #[_,_,_,_,_]) S sz27 ?_ (ho:=rfl) (hx:=rfl) (hy:=rfl));(clear S F;intro W S;have F:=S.fc)) | ((with_reducible refine gs (t:=30) rfl (L ?_));(first | refine sb (.agg #[_,_,_]) S sz30 ?_ | refine ro (.agg #[_,_,_]) S sz30 ?_ (ho:=rfl) (hx:=rfl) (hy:=rfl));(clear S F;intro W S;have F:=S.fc)))
    go_meet
    case rel=>exact ⟨_,true,t1164,t1165,(by first | rfl | (simp;done) | (simp [*];done) | (rw [w6_ (by omega) (by omega)])),H,(by first | omega | exact Nat.le_refl _),S⟩
 case rest =>
  clear H S F
  obtain ⟨kq,x17_2,x1153001_2,x1153002_2,rfl,HA,HJ2,S⟩:=hcut
  have F:=S.fc
  cases kq with
  | zero=>exact absurd HA (by simp [spec_DrawMeetsChallenge.j0])
  | succ kj2 =>
   have H:=HA;clear HA;simp only [spec_DrawMeetsChallenge.j0,F] at H
   replace H:=sp_ H;rcases H with ⟨c30,H⟩ | ⟨c30,H⟩
   · skip
     subst c30
     replace H:=Option.bind_eq_some_iff.mp H;obtain ⟨⟨t1171,t1172,t1173,t1176,t1177⟩,A31,H⟩:=H;(try dsimp only at H)
     simp only [Option.some.injEq,Prod.mk.injEq] at H
     obtain ⟨rfl,rfl,rfl,rfl,rfl,rfl,rfl,rfl⟩:=H
     go_wp2_with (first | ((with_reducible refine gs (t:=27) rfl (L ?_));(first | refine sb (.agg #[_,_,_,_,_]) S sz27 ?_ | refine ro (.agg #[_,_,_,_,_]) S sz27 ?_ (ho:=rfl) (hx:=rfl) (hy:=rfl));(clear S F;intro W S;have F:=S.fc)) | ((with_reducible refine gs (t:=30) rfl (L ?_));(first | refine sb (.agg #[_,_,_]) S sz30 ?_ | refine ro (.agg #[_,_,_]) S sz30 ?_ (ho:=rfl) (hx:=rfl) (hy:=rfl));(clear S F;intro W S;have F:=S.fc)))
     refine rgP S (fun _ S=>(S.ms [1,1,1,1,0,0,0])) [(0,1),(1,0),(2,2),(2,3),(2,4)] [] (by kernel_rfl) (by kernel_rfl) (fun _ d _ _ _ h=>by cases d <;> exact h) ?_;clear S F;intro W S;have S0:=(S.ms [1,1,1,1,0,0,0]);have F:=S.fc
     repeat (first | (refine q0 (h:=?_)) | (refine q1 S0 (h:=?_)) | (refine q0n (h:=?_)) | (refine q1n S0 (h:=?_)))
     refine lk2 (by rfl) (by exact (Eq.refl true)) ?_;refine cl (some 20) Try.func136 (spec_l1Cur_anyBoard.calls _ gb1152 _ _ _ _ _ _ _ _ _ _ _ _ S.hb (S.hge gb1152) hr0 S.below A31) (hargs:=by (simp only [ma_,mb_,mc_,F] <;> rfl)) (h:=?_);rintro e W ⟨v1174,rfl,ho0,hi,hb,hk⟩;refine ⟨_,rfl,?_⟩;obtain ⟨W_,hs_,hm_,S⟩:=S.mid gb1152 hi hb hk;rw [← hs_] at ho0;replace S:=S.gotq at42 hm_ ho0;obtain ⟨At1173,ct1173,rfl,S⟩:=S;clear F hi hb hk hs_ hm_ ho0;have F:=S.fc
     clear S0;have S0:=(S.ms [0,1,1,1,1,0,0,0]);refine ⟨S0,?_⟩
     refine lk2 (by rfl) (by exact (Eq.refl true)) ?_;(first | refine sb (.agg #[_,_,_,_,_]) S sz27 ?_ | refine ro (.agg #[_,_,_,_,_]) S sz27 ?_ (ho:=rfl) (hx:=rfl) (hy:=rfl) | refine sb (.agg #[_,_,_]) S sz30 ?_ | refine ro (.agg #[_,_,_]) S sz30 ?_ (ho:=rfl) (hx:=rfl) (hy:=rfl));(clear S F;intro W S;have F:=S.fc)
     clear S0;have S0:=(S.ms [0,1,1,1,1,0,0,0]);refine ⟨S0,?_⟩
     refine lk2 (by rfl) (by exact (Eq.refl true)) ?_;(first | refine sb (.agg #[_,_,_,_,_]) S sz27 ?_ | refine ro (.agg #[_,_,_,_,_]) S sz27 ?_ (ho:=rfl) (hx:=rfl) (hy:=rfl) | refine sb (.agg #[_,_,_]) S sz30 ?_ | refine ro (.agg #[_,_,_]) S sz30 ?_ (ho:=rfl) (hx:=rfl) (hy:=rfl));(clear S F;intro W S;have F:=S.fc)
     clear S0;have S0:=(S.ms [0,1,1,1,1,0,0,0]);refine ⟨S0,?_⟩
     refine oz ?_
     try clear S0
     go_wp2_with (first | ((with_reducible refine gs (t:=27) rfl (L ?_));(first | refine sb (.agg #[_,_,_,_,_]) S sz27 ?_ | refine ro (.agg #[_,_,_,_,_]) S sz27 ?_ (ho:=rfl) (hx:=rfl) (hy:=rfl));(clear S F;intro W S;have F:=S.fc)) | ((with_reducible refine gs (t:=30) rfl (L ?_));(first | refine sb (.agg #[_,_,_]) S sz30 ?_ | refine ro (.agg #[_,_,_]) S sz30 ?_ (ho:=rfl) (hx:=rfl) (hy:=rfl));(clear S F;intro W S;have F:=S.fc)))
     refine bodyPost_ret (results_cc rfl _ _ gb1150 gb1151 27 30 #[.int .i64 t1153,.int .i64 t1154,.slice At1155 t1155.length ct1155,.slice At1158 t1158.length ct1158,.slice At1161 t1161.length ct1161] #[.int .i64 t1171,.int .i64 t1172,.slice At1173 t1173.length ct1173] (0,0) (0,0) _ _ rfl S.hb Try.underlying27 rfl (by kernel_rfl) rfl S.hb Try.underlying30 rfl (by kernel_rfl)) rfl ?_
     exact ⟨_,_,_,_,(by first | rfl | (simp [e0_,e1_] <;> rfl) | (simp [*,e0_,e1_] <;> rfl)),(by first | exact S.rq | exact S.rn | exact Kd.R_nil _ _ _ _ _),(by first | exact S.rq | exact S.rn | exact Kd.R_nil _ _ _ _ _),(by first | exact S.rq | exact S.rn | exact Kd.R_nil _ _ _ _ _),(by first | exact S.qr | exact Kd.Q_of_R S.rn | exact Kd.Q_nil _ _ _ _ _),S.below⟩
   · skip
     replace c30:=cbf c30;subst c30
     replace H:=Option.bind_eq_some_iff.mp H;obtain ⟨t1178,A43,H⟩:=H;(try dsimp only at H)
     replace H:=Option.bind_eq_some_iff.mp H;obtain ⟨⟨t1179,t1180,t1181⟩,A44,H⟩:=H;(try dsimp only at H)
     replace H:=Option.bind_eq_some_iff.mp H;obtain ⟨⟨t1182,t1183,t1184⟩,A45,H⟩:=H;(try dsimp only at H)
     simp only [Option.some.injEq,Prod.mk.injEq] at H
     obtain ⟨rfl,rfl,rfl,rfl,rfl,rfl,rfl,rfl⟩:=H
     go_wp2_with (first | ((with_reducible refine gs (t:=27) rfl (L ?_));(first | refine sb (.agg #[_,_,_,_,_]) S sz27 ?_ | refine ro (.agg #[_,_,_,_,_]) S sz27 ?_ (ho:=rfl) (hx:=rfl) (hy:=rfl));(clear S F;intro W S;have F:=S.fc)) | ((with_reducible refine gs (t:=30) rfl (L ?_));(first | refine sb (.agg #[_,_,_]) S sz30 ?_ | refine ro (.agg #[_,_,_]) S sz30 ?_ (ho:=rfl) (hx:=rfl) (hy:=rfl));(clear S F;intro W S;have F:=S.fc)))
     refine rgP S (fun _ S=>(S.ms [1,1,1,1,0,0,0])) [(0,2),(1,0),(1,1),(1,3),(2,4),(2,5),(2,6),(2,7),(2,8)] [] (by kernel_rfl) (by kernel_rfl) (fun _ d _ _ _ h=>by cases d <;> exact h) ?_;clear S F;intro W S;have S0:=(S.ms [1,1,1,1,0,0,0]);have F:=S.fc
     repeat (first | (refine q0 (h:=?_)) | (refine q1 S0 (h:=?_)) | (refine q0n (h:=?_)) | (refine q1n S0 (h:=?_)))
     refine lk2 (by rfl) (by exact (Eq.refl true)) ?_;refine cl (some 25) Try.func129 (spec_syTried.calls _ _ _ _ _ _ _ _ _ _ _ _ _ _ S.c S.n S.c S.n S.c S.n A43) (hargs:=by (simp only [ma_,mb_,mc_,F] <;> rfl)) (h:=?_);rintro e W ⟨rfl,hb⟩;refine ⟨_,rfl,?_⟩;replace S:=S.go hb;clear F hb;have F:=S.fc
     clear S0;have S0:=(S.ms [1,1,1,1,0,0,0]);refine ⟨S0,?_⟩
     refine lk2 (by rfl) (by exact (Eq.refl true)) ?_;refine cl (some 26) Try.func114 (spec_l1Cur_pick.calls gb1152 _ _ _ _ _ _ _ _ _ _ _ S.hb (S.hge gb1152) hr0 S.below A44) (hargs:=by (simp only [ma_,mb_,mc_,F] <;> rfl)) (h:=?_);rintro e W ⟨rfl,hi,hb,hk⟩;refine ⟨_,rfl,?_⟩;obtain ⟨W_,hs_,hm_,S⟩:=S.mid gb1152 hi hb hk;replace S:=S.go hm_;clear F hi hb hk hs_ hm_ ;have F:=S.fc
     clear S0;have S0:=(S.ms [1,1,1,1,0,0,0]);refine ⟨S0,?_⟩
     refine lk2 (by rfl) (by exact (Eq.refl true)) ?_;refine cl (some 27) Try.func95 (spec_syBoard.calls _ _ _ _ _ _ _ _ _ _ _ _ _ _ _ _ _ S.c S.n S.c S.n S.c S.n A45) (hargs:=by (simp only [ma_,mb_,mc_,F] <;> rfl)) (h:=?_);rintro e W ⟨v1185,rfl,ho0,hb⟩;refine ⟨_,rfl,?_⟩;replace S:=S.got at42 hb ho0;obtain ⟨At1184,ct1184,rfl,S⟩:=S;clear F hb ho0;have F:=S.fc
     clear S0;have S0:=(S.ms [0,1,1,1,1,0,0,0]);refine ⟨S0,?_⟩
     refine lk2 (by rfl) (by exact (Eq.refl true)) ?_;(first | refine sb (.agg #[_,_,_,_,_]) S sz27 ?_ | refine ro (.agg #[_,_,_,_,_]) S sz27 ?_ (ho:=rfl) (hx:=rfl) (hy:=rfl) | refine sb (.agg #[_,_,_]) S sz30 ?_ | refine ro (.agg #[_,_,_]) S sz30 ?_ (ho:=rfl) (hx:=rfl) (hy:=rfl));(clear S F;intro W S;have F:=S.fc)
     clear S0;have S0:=(S.ms [0,1,1,1,1,0,0,0]);refine ⟨S0,?_⟩
     refine lk2 (by rfl) (by exact (Eq.refl true)) ?_;(first | refine sb (.agg #[_,_,_,_,_]) S sz27 ?_ | refine ro (.agg #[_,_,_,_,_]) S sz27 ?_ (ho:=rfl) (hx:=rfl) (hy:=rfl) | refine sb (.agg #[_,_,_]) S sz30 ?_ | refine ro (.agg #[_,_,_]) S sz30 ?_ (ho:=rfl) (hx:=rfl) (hy:=rfl));(clear S F;intro W S;have F:=S.fc)
     clear S0;have S0:=(S.ms [0,1,1,1,1,0,0,0]);refine ⟨S0,?_⟩
     refine oz ?_
     try clear S0
     go_wp2_with (first | ((with_reducible refine gs (t:=27) rfl (L ?_));(first | refine sb (.agg #[_,_,_,_,_]) S sz27 ?_ | refine ro (.agg #[_,_,_,_,_]) S sz27 ?_ (ho:=rfl) (hx:=rfl) (hy:=rfl));(clear S F;intro W S;have F:=S.fc)) | ((with_reducible refine gs (t:=30) rfl (L ?_));(first | refine sb (.agg #[_,_,_]) S sz30 ?_ | refine ro (.agg #[_,_,_]) S sz30 ?_ (ho:=rfl) (hx:=rfl) (hy:=rfl));(clear S F;intro W S;have F:=S.fc)))
     refine bodyPost_ret (results_cc rfl _ _ gb1150 gb1151 27 30 #[.int .i64 t1153,.int .i64 t1154,.slice At1155 t1155.length ct1155,.slice At1158 t1158.length ct1158,.slice At1161 t1161.length ct1161] #[.int .i64 t1182,.int .i64 t1183,.slice At1184 t1184.length ct1184] (0,0) (0,0) _ _ rfl S.hb Try.underlying27 rfl (by kernel_rfl) rfl S.hb Try.underlying30 rfl (by kernel_rfl)) rfl ?_
     exact ⟨_,_,_,_,(by first | rfl | (simp [e0_,e1_] <;> rfl) | (simp [*,e0_,e1_] <;> rfl)),(by first | exact S.rq | exact S.rn | exact Kd.R_nil _ _ _ _ _),(by first | exact S.rq | exact S.rn | exact Kd.R_nil _ _ _ _ _),(by first | exact S.rq | exact S.rn | exact Kd.R_nil _ _ _ _ _),(by first | exact S.qr | exact Kd.Q_of_R S.rn | exact Kd.Q_nil _ _ _ _ _),S.below⟩
end Go.Proofs.Ytnmffpfiichjgaa.F
