-- Printed by a program; checked here.
import Derived.Test.YtnmffpfiichjgaaF0
import Derived.Test.YtnmffpfiichjgaaF1
namespace Go.Proofs.Ytnmffpfiichjgaa.F
open Go.RowKit Go.Proofs.YtnmffpfiichjgaaV.PrintWords Go.Proofs.YtnmffpfiichjgaaV.PrintLast Go.Proofs.YtnmffpfiichjgaaV.PrintMore Go.Proofs.YtnmffpfiichjgaaV.Sl Go.Proofs.YtnmffpfiichjgaaV.Rf
attribute [local go_sem] max2_int min2_int max_two min_two max_three min_three max_four min_four ia_opt it_opt
attribute [local go_sem] Try.underlying4 Try.underlying23 Try.underlying24 Try.underlying25 Try.underlying27 Try.underlying30 Try.underlying42 Try.underlying68 Try.underlying80 Try.underlying111
set_option maxHeartbeats 8000000
set_option maxRecDepth 100000
set_option linter.unusedVariables false
set_option linter.unusedSimpArgs false

attribute [local go_sem high] eqA42
/-! ### laws_big: function 8 -/
def laws_big.f (l0:List Int) (l1:List Int):Option (Bool):=if (l0.length:Int) > 1048576 then (some true) else (some (decide ((l1.length:Int) > (wrap64 (1048576 - (l0.length:Int))))))
theorem laws_big.calls (A0:Option Addr) (c0:Nat) (l0:List Int) (A1:Option Addr) (c1:Nat) (l1:List Int) (r:Bool) (w:World) (hr0:Kd.C (Kd.int .u8) w A0 l0.length l0) (hc0:l0.length ≤ c0) (hr1:Kd.C (Kd.int .u8) w A1 l1.length l1) (hc1:l1.length ≤ c1) (h:laws_big.f l0 l1 = some r) :
  Calls Try.prog 8 #[.slice A0 l0.length c0,.slice A1 l1.length c1] w fun e w'=>e = .returned (.bool r)∧Drawn0 w w':=by
 have HR0:=Aside0.mk hr0;have HC0:=Aside0.mk hc0;clear hr0 hc0;have HR1:=Aside0.mk hr1;have HC1:=Aside0.mk hc1;clear hr1 hc1;have H:(if (l0.length:Int) > 1048576 then (some true) else (some (decide ((l1.length:Int) > (wrap64 (1048576 - (l0.length:Int))))))) = some r:=h;clear h;by_cases c3:(l0.length:Int) > 1048576
 ·rw [if_pos c3] at H;have c3b0:decide (1048576 < (l0.length:Int)) = true:=decide_eq_true c3;have c3b1:decide (1048576 < l0.length) = true:=decide_eq_true (by omega);clear c3;obtain rfl:=Option.some.inj H;go_enter Try.func8,Try.ntmps8;go_wp2;go_ret;exact ⟨by first | rfl | (simp;done) | (simp [*];done),by repeat (first | exact Drawn0.refl _ | apply Drawn0.step)⟩
 ·rw [if_neg c3] at H;have c3b0:decide (1048576 < (l0.length:Int)) = false:=decide_eq_false c3;have c3b1:decide (1048576 < l0.length) = false:=decide_eq_false (by omega);clear c3;obtain rfl:=Option.some.inj H;go_enter Try.func8,Try.ntmps8;go_wp2;go_ret;exact ⟨by first | rfl | (simp;done) | (simp [*];done),by repeat (first | exact Drawn0.refl _ | apply Drawn0.step)⟩

/-- A state of type 111 at block g of W; what its slices lead to came in by w0. -/
def IsS111 (w0 W:World) (g:Nat) (f0:List Int) (f1:Int) (f2:Int):Prop:=∃ A0 c0,W.heap[g]? = some (.cells #[.slice A0 f0.length c0,.int .i64 f1,.int .u64 f2] 111 (0,0))∧w0.heap.size ≤ g∧Kd.C (Kd.int .u8) w0 A0 f0.length f0
theorem IsS111.grown {w0 W:World} {g:Nat} {f0:List Int} {f1:Int} {f2:Int} {W1:World} {row:Option Nat} (h:IsS111 w0 W g f0 f1 f2) (hw:W.grownBy W1 row) (hne:some g ≠ row):IsS111 w0 W1 g f0 f1 f2:=by
 obtain ⟨A0,c0,hb,hg,hr0⟩:=h;exact ⟨A0,c0,blk_grown hb hw hne,hg,hr0⟩
theorem IsS111.own_neN {w0 W:World} {g:Nat} {f0:List Int} {f1:Int} {f2:Int} {α:Type} {d:Kd α} {e:Nat} {base:Nat} {ok:Nat→Prop} {v:Value} {xs:List α} (h:IsS111 w0 W g f0 f1 f2) (ho:Kd.N d e W base ok v xs) (ht:e ≠ 111):some g ≠ v.ownBlock:=by
 obtain ⟨A0,c0,hb,hg,hr0⟩:=h;exact Kd.N_ne ho hb ht
theorem IsS111.fresh {w0 W:World} {g:Nat} {f0:List Int} {f1:Int} {f2:Int} (h:IsS111 w0 W g f0 f1 f2):∀ k,W.heap.size ≤ k→k ≠ g:=by
 obtain ⟨A0,c0,hb,hg,hr0⟩:=h;exact Kd.freshB hb
theorem IsS111.kept {w0 W:World} {g:Nat} {f0:List Int} {f1:Int} {f2:Int} {W1:World} {S:Nat→Prop} (h:IsS111 w0 W g f0 f1 f2) (hk:Kept W W1 S) (hne:¬ S g):IsS111 w0 W1 g f0 f1 f2:=by
 obtain ⟨A0,c0,hb,hg,hr0⟩:=h;exact ⟨A0,c0,blk_kept hb hk hne,hg,hr0⟩
theorem IsS111.below {w0 W:World} {g:Nat} {f0:List Int} {f1:Int} {f2:Int} {W1:World} (h:IsS111 w0 W g f0 f1 f2) (hw:Below W.heap.size W W1):IsS111 w0 W1 g f0 f1 f2:=h.grown (grown_of_below hw none) (by simp)
theorem IsS111.alloc {w0 W:World} {g:Nat} {f0:List Int} {f1:Int} {f2:Int} (h:IsS111 w0 W g f0 f1 f2) (o:Obj):IsS111 w0 (W.alloc o) g f0 f1 f2:=h.below (below_alloc (Below.refl _ _) o)
theorem IsS111.drewN {w0 W:World} {g:Nat} {f0:List Int} {f1:Int} {f2:Int} (h:IsS111 w0 W g f0 f1 f2) (m:Nat):IsS111 w0 (W.drewN m) g f0 f1 f2:=h
theorem IsS111.drew {w0 W:World} {g:Nat} {f0:List Int} {f1:Int} {f2:Int} (h:IsS111 w0 W g f0 f1 f2):IsS111 w0 W.drew g f0 f1 f2:=h
theorem IsS111.at_ {w0 W:World} {g:Nat} {f0:List Int} {f1:Int} {f2:Int} {w':World} {m:Nat} (hq:W.drewN m = w') (h:IsS111 w0 W g f0 f1 f2):IsS111 w0 w' g f0 f1 f2:=by subst hq;exact IsS111.drewN h m
theorem IsS111.apart {w0 W:World} {g:Nat} {f0:List Int} {f1:Int} {f2:Int} {α:Type} {d:Kd α} {e:Nat} {base:Nat} {ok:Nat→Prop} {v:Value} {xs:List α} (h:IsS111 w0 W g f0 f1 f2) (ho:d.R e W base ok v xs) (ht:∀ q,q ∈ e :: d.E→q ≠ 111):d.R e W base (fun k=>ok k∧k ≠ g) v xs:=by
 obtain ⟨A0,c0,hb,hg,hr0⟩:=h;exact Kd.R_types ho hb ht
theorem IsS111.own_ne {w0 W:World} {g:Nat} {f0:List Int} {f1:Int} {f2:Int} {α:Type} {d:Kd α} {e:Nat} {base:Nat} {ok:Nat→Prop} {v:Value} {xs:List α} (h:IsS111 w0 W g f0 f1 f2) (ho:d.R e W base ok v xs) (ht:e ≠ 111):some g ≠ v.ownBlock:=by
 obtain ⟨A0,c0,hb,hg,hr0⟩:=h;exact Kd.R_ne ho hb ht
theorem IsS111.apartQ {w0 W:World} {g:Nat} {f0:List Int} {f1:Int} {f2:Int} {α:Type} {d:Kd α} {e:Nat} {base:Nat} {ok:Nat→Prop} {v:Value} {xs:List α} (h:IsS111 w0 W g f0 f1 f2) (ho:d.Q e W base ok v xs) (ht:∀ q,q ∈ e :: d.E→q ≠ 111):d.Q e W base (fun k=>ok k∧k ≠ g) v xs:=by
 obtain ⟨A0,c0,hb,hg,hr0⟩:=h;exact Kd.Q_types ho hb ht
theorem IsS111.own_neQ {w0 W:World} {g:Nat} {f0:List Int} {f1:Int} {f2:Int} {α:Type} {d:Kd α} {e:Nat} {base:Nat} {ok:Nat→Prop} {v:Value} {xs:List α} (h:IsS111 w0 W g f0 f1 f2) (ho:d.Q e W base ok v xs) (ht:e ≠ 111):some g ≠ v.ownBlock:=by
 obtain ⟨A0,c0,hb,hg,hr0⟩:=h;exact Kd.Q_ne ho hb ht
theorem IsS111.apartS {w0 W:World} {g:Nat} {f0:List Int} {f1:Int} {f2:Int} {α:Type} {d:Kd α} {e:Nat} {base:Nat} {ok:Nat→Prop} {v:Value} {xs:List α} (h:IsS111 w0 W g f0 f1 f2) (ho:d.S e W base ok v xs) (ht:∀ q,q ∈ e :: d.E→q ≠ 111):d.S e W base (fun k=>ok k∧k ≠ g) v xs:=by
 obtain ⟨A0,c0,hb,hg,hr0⟩:=h;exact Kd.S_types ho hb ht
theorem IsS111.own_neS {w0 W:World} {g:Nat} {f0:List Int} {f1:Int} {f2:Int} {α:Type} {d:Kd α} {e:Nat} {base:Nat} {ok:Nat→Prop} {v:Value} {xs:List α} (h:IsS111 w0 W g f0 f1 f2) (ho:d.S e W base ok v xs) (ht:e ≠ 111):some g ≠ v.ownBlock:=by
 obtain ⟨A0,c0,hb,hg,hr0⟩:=h;exact Kd.S_ne ho hb ht
theorem IsS111.lt {w0 W:World} {g:Nat} {f0:List Int} {f1:Int} {f2:Int} (h:IsS111 w0 W g f0 f1 f2):g < W.heap.size:=by
 obtain ⟨A0,c0,hb,hg,hr0⟩:=h;exact blk_lt hb
theorem IsS111.ge {w0 W:World} {g:Nat} {f0:List Int} {f1:Int} {f2:Int} (h:IsS111 w0 W g f0 f1 f2):w0.heap.size ≤ g:=by
 obtain ⟨A0,c0,hb,hg,hr0⟩:=h;exact hg
theorem IsS111.ne_blk {w0 W:World} {g:Nat} {f0:List Int} {f1:Int} {f2:Int} {a:Nat} {cs:Array Value} {t:TypeId} {fr:Nat × Nat} (h:IsS111 w0 W g f0 f1 f2) (hb2:W.heap[a]? = some (.cells cs t fr)) (ht:t ≠ 111):g ≠ a:=by
 obtain ⟨A0,c0,hb,hg,hr0⟩:=h;rintro rfl;rw [hb] at hb2;injection hb2 with hb2;injection hb2 with _ ht2;exact ht ht2.symm
theorem IsS111.far {w0 W:World} {g:Nat} {f0:List Int} {f1:Int} {f2:Int} {p:Addr} (h:IsS111 w0 W g f0 f1 f2) (hne:g ≠ p.block) (u:Value):IsS111 w0 (W.setCell p u) g f0 f1 f2:=by
 obtain ⟨A0,c0,hb,hg,hr0⟩:=h;exact ⟨A0,c0,blk_far hb hne u,hg,hr0⟩
theorem cellS111_0 {W:World} {g:Nat} {A0:Option Addr} {c0:Nat} {f0:List Int} {f1:Int} {f2:Int} (h:W.heap[g]? = some (.cells #[.slice A0 f0.length c0,.int .i64 f1,.int .u64 f2] 111 (0,0))):W.cell? ⟨g,0,none⟩ = some (.slice A0 f0.length c0):=(blk_cell h 0).trans rfl
theorem cellS111_1 {W:World} {g:Nat} {A0:Option Addr} {c0:Nat} {f0:List Int} {f1:Int} {f2:Int} (h:W.heap[g]? = some (.cells #[.slice A0 f0.length c0,.int .i64 f1,.int .u64 f2] 111 (0,0))):W.cell? ⟨g,1,none⟩ = some (.int .i64 f1):=(blk_cell h 1).trans rfl
theorem IsS111.set_1 {w0 W:World} {g:Nat} {f0:List Int} {f1:Int} {f2:Int} (h:IsS111 w0 W g f0 f1 f2) (x:Int):IsS111 w0 (W.setCell ⟨g,1,none⟩ (.int .i64 x)) g f0 x f2:=by
 obtain ⟨A0,c0,hb,hg,hr0⟩:=h;exact ⟨A0,c0,by simpa using blk_set hb 1 (.int .i64 x),hg,hr0⟩
theorem cellS111_2 {W:World} {g:Nat} {A0:Option Addr} {c0:Nat} {f0:List Int} {f1:Int} {f2:Int} (h:W.heap[g]? = some (.cells #[.slice A0 f0.length c0,.int .i64 f1,.int .u64 f2] 111 (0,0))):W.cell? ⟨g,2,none⟩ = some (.int .u64 f2):=(blk_cell h 2).trans rfl
theorem IsS111.set_2 {w0 W:World} {g:Nat} {f0:List Int} {f1:Int} {f2:Int} (h:IsS111 w0 W g f0 f1 f2) (x:Int):IsS111 w0 (W.setCell ⟨g,2,none⟩ (.int .u64 x)) g f0 f1 x:=by
 obtain ⟨A0,c0,hb,hg,hr0⟩:=h;exact ⟨A0,c0,by simpa using blk_set hb 2 (.int .u64 x),hg,hr0⟩
theorem IsS111.new (w0 W:World) (A0:Option Addr) (c0:Nat) (f0:List Int) (f1:Int) (f2:Int) (hB:Below w0.heap.size w0 W) (hr0:Kd.C (Kd.int .u8) w0 A0 f0.length f0):IsS111 w0 (W.alloc (.cells #[.slice A0 f0.length c0,.int .i64 f1,.int .u64 f2] 111)) W.heap.size f0 f1 f2:=⟨A0,c0,by simpa using heap_alloc_new W _,hB.size,hr0⟩

/-! ### spec_l1Cur_next: function 187 -/
def spec_l1Cur_next.f (s0_0:List Int) (s0_1:Int) (s0_2:Int):Option (Int × Int × Int):=if s0_1 < (s0_0.length:Int) then (if 0 ≤ s0_1 then (if (wrap64 (s0_1 + 1)) ≤ (s0_0.length:Int) then (some (wrap64 (rd s0_0 s0_1),wrap64 (s0_1 + 1),IntKind.u64.wrap ((IntKind.u64.wrap ((IntKind.u64.wrap (s0_2 * 6364136223846793005)) + (IntKind.u64.wrap (wrap64 (rd s0_0 s0_1))))) + 1442695040888963407))) else (some (wrap64 (Go.bits .and .u64 ((IntKind.u64.wrap ((IntKind.u64.wrap ((IntKind.u64.wrap (s0_2 * 6364136223846793005)) + (IntKind.u64.wrap (wrap64 (rd s0_0 s0_1))))) + 1442695040888963407)) / 1099511627776) 255),wrap64 (s0_1 + 1),IntKind.u64.wrap ((IntKind.u64.wrap ((IntKind.u64.wrap (s0_2 * 6364136223846793005)) + (IntKind.u64.wrap (wrap64 (rd s0_0 s0_1))))) + 1442695040888963407)))) else (none)) else (if (wrap64 (s0_1 + 1)) ≤ (s0_0.length:Int) then (some (0,wrap64 (s0_1 + 1),IntKind.u64.wrap ((IntKind.u64.wrap ((IntKind.u64.wrap (s0_2 * 6364136223846793005)) + 0)) + 1442695040888963407))) else (some (wrap64 (Go.bits .and .u64 ((IntKind.u64.wrap ((IntKind.u64.wrap ((IntKind.u64.wrap (s0_2 * 6364136223846793005)) + 0)) + 1442695040888963407)) / 1099511627776) 255),wrap64 (s0_1 + 1),IntKind.u64.wrap ((IntKind.u64.wrap ((IntKind.u64.wrap (s0_2 * 6364136223846793005)) + 0)) + 1442695040888963407))))
theorem spec_l1Cur_next.calls (g:Nat) (s0_0:List Int) (s0_1:Int) (s0_2:Int) (r1:Int) (r2:Int) (r3:Int) (As0_0:Option Addr) (cs0_0:Nat) (w0 w:World) (hI:w.heap[g]? = some (.cells #[.slice As0_0 s0_0.length cs0_0,.int .i64 s0_1,.int .u64 s0_2] 111 (0,0))) (hG:w0.heap.size ≤ g) (hS0_0:Kd.C (Kd.int .u8) w0 As0_0 s0_0.length s0_0) (hB:Below w0.heap.size w0 w) (h:spec_l1Cur_next.f s0_0 s0_1 s0_2 = some (r1,r2,r3)) :
    Calls Try.prog 187 #[.pointer (some ⟨g,0,none⟩)] w fun e w'=>e = .returned (.int .i64 r1)∧w'.heap[g]? = some (.cells #[.slice As0_0 s0_0.length cs0_0,.int .i64 r2,.int .u64 r3] 111 (0,0))∧Below w0.heap.size w0 w'∧Kept w w' (fun k_=>k_ = g):=by
 have S:=St.boxed hB hG hI (dg (Kd.heap_int .u8) (atI .u8) hS0_0 hB hG dn)
 clear hI hB
 have F:=S.fc
 have H:=h;clear h;unfold spec_l1Cur_next.f at H
 replace H:=sp_ H;rcases H with ⟨c2,H⟩ | ⟨c2,H⟩
 · skip
   replace H:=np_ H;obtain ⟨c3,H⟩:=H
   replace H:=sp_ H;rcases H with ⟨c4,H⟩ | ⟨c4,H⟩
   · skip
     simp only [Option.some.injEq,Prod.mk.injEq] at H
     obtain ⟨rfl,rfl,rfl⟩:=H
     go_enter Try.func187,Try.ntmps187
     go_wp2
     go_wp2_with (first | ((with_reducible refine gs (t:=3) rfl (L ?_));refine sb (.int _ _) S sz3 ?_;(clear S F;intro W S;have F:=S.fc)) | ((with_reducible refine gs (t:=109) rfl (L ?_));refine sb (.int _ _) S sz109 ?_;(clear S F;intro W S;have F:=S.fc)) | ((refine rq (id:=2) S [(0,0),(0,1),(0,2),(0,4),(0,5),(0,6),(1,3),(1,7),(0,8),(0,9)] [] (h:=?_);clear S F;intro W S;have S0:=S;have F:=S.fc)) | ((refine rq (id:=3) S [(0,0),(0,1),(0,2),(0,4),(0,5),(0,6),(1,3),(1,7),(0,8),(1,9),(0,10),(0,11)] [] (h:=?_);clear S F;intro W S;have S0:=S;have F:=S.fc)) | ((refine rq (id:=6) S [(0,0),(0,1),(0,2),(0,4),(0,5),(0,6),(1,3),(1,7),(0,8),(0,9)] [] (h:=?_);clear S F;intro W S;have S0:=S;have F:=S.fc)) | (refine q0 (h:=?_)) | (refine q1 S0 (h:=?_)) | refine oz ?_)
     go_ret
     exact ⟨(by first | rfl | (simp;done) | first | rfl | (simp [e0_,e1_] <;> rfl) | (simp [*,e0_,e1_] <;> rfl)),(by first | exact S.hb | simpa using S.hb (g:=g)),S.below,S.kept⟩
   · skip
     simp only [Option.some.injEq,Prod.mk.injEq] at H
     obtain ⟨rfl,rfl,rfl⟩:=H
     go_enter Try.func187,Try.ntmps187
     go_wp2
     go_wp2_with (first | ((with_reducible refine gs (t:=3) rfl (L ?_));refine sb (.int _ _) S sz3 ?_;(clear S F;intro W S;have F:=S.fc)) | ((with_reducible refine gs (t:=109) rfl (L ?_));refine sb (.int _ _) S sz109 ?_;(clear S F;intro W S;have F:=S.fc)) | ((refine rq (id:=2) S [(0,0),(0,1),(0,2),(0,4),(0,5),(0,6),(1,3),(1,7),(0,8),(0,9)] [] (h:=?_);clear S F;intro W S;have S0:=S;have F:=S.fc)) | ((refine rq (id:=3) S [(0,0),(0,1),(0,2),(0,4),(0,5),(0,6),(1,3),(1,7),(0,8),(1,9),(0,10),(0,11)] [] (h:=?_);clear S F;intro W S;have S0:=S;have F:=S.fc)) | ((refine rq (id:=6) S [(0,0),(0,1),(0,2),(0,4),(0,5),(0,6),(1,3),(1,7),(0,8),(0,9)] [] (h:=?_);clear S F;intro W S;have S0:=S;have F:=S.fc)) | (refine q0 (h:=?_)) | (refine q1 S0 (h:=?_)) | refine oz ?_)
     go_ret
     exact ⟨(by first | rfl | (simp;done) | first | rfl | (simp [e0_,e1_] <;> rfl) | (simp [*,e0_,e1_] <;> rfl)),(by first | exact S.hb | simpa using S.hb (g:=g)),S.below,S.kept⟩
 · skip
   replace H:=sp_ H;rcases H with ⟨c7,H⟩ | ⟨c7,H⟩
   · skip
     simp only [Option.some.injEq,Prod.mk.injEq] at H
     obtain ⟨rfl,rfl,rfl⟩:=H
     go_enter Try.func187,Try.ntmps187
     go_wp2
     go_wp2_with (first | ((with_reducible refine gs (t:=3) rfl (L ?_));refine sb (.int _ _) S sz3 ?_;(clear S F;intro W S;have F:=S.fc)) | ((with_reducible refine gs (t:=109) rfl (L ?_));refine sb (.int _ _) S sz109 ?_;(clear S F;intro W S;have F:=S.fc)) | ((refine rq (id:=2) S [(0,0),(0,1),(0,2),(0,4),(0,5),(0,6),(1,3),(1,7),(0,8),(0,9)] [] (h:=?_);clear S F;intro W S;have S0:=S;have F:=S.fc)) | ((refine rq (id:=6) S [(0,0),(0,1),(0,2),(0,4),(0,5),(0,6),(1,3),(1,7),(0,8),(0,9)] [] (h:=?_);clear S F;intro W S;have S0:=S;have F:=S.fc)) | (refine q0 (h:=?_)) | (refine q1 S0 (h:=?_)) | refine oz ?_)
     go_ret
     exact ⟨(by first | rfl | (simp;done) | first | rfl | (simp [e0_,e1_] <;> rfl) | (simp [*,e0_,e1_] <;> rfl)),(by first | exact S.hb | simpa using S.hb (g:=g)),S.below,S.kept⟩
   · skip
     simp only [Option.some.injEq,Prod.mk.injEq] at H
     obtain ⟨rfl,rfl,rfl⟩:=H
     go_enter Try.func187,Try.ntmps187
     go_wp2
     go_wp2_with (first | ((with_reducible refine gs (t:=3) rfl (L ?_));refine sb (.int _ _) S sz3 ?_;(clear S F;intro W S;have F:=S.fc)) | ((with_reducible refine gs (t:=109) rfl (L ?_));refine sb (.int _ _) S sz109 ?_;(clear S F;intro W S;have F:=S.fc)) | ((refine rq (id:=2) S [(0,0),(0,1),(0,2),(0,4),(0,5),(0,6),(1,3),(1,7),(0,8),(0,9)] [] (h:=?_);clear S F;intro W S;have S0:=S;have F:=S.fc)) | ((refine rq (id:=6) S [(0,0),(0,1),(0,2),(0,4),(0,5),(0,6),(1,3),(1,7),(0,8),(0,9)] [] (h:=?_);clear S F;intro W S;have S0:=S;have F:=S.fc)) | (refine q0 (h:=?_)) | (refine q1 S0 (h:=?_)) | refine oz ?_)
     go_ret
     exact ⟨(by first | rfl | (simp;done) | first | rfl | (simp [e0_,e1_] <;> rfl) | (simp [*,e0_,e1_] <;> rfl)),(by first | exact S.hb | simpa using S.hb (g:=g)),S.below,S.kept⟩

/-! ### spec_l1Cur_pick: function 114 -/
def spec_l1Cur_pick.f (s0_0:List Int) (s0_1:Int) (s0_2:Int) (a1:Int):Option (Int × Int × Int):=if a1 ≤ 1 then (some (0,s0_1,s0_2)) else ((spec_l1Cur_next.f s0_0 s0_1 s0_2).bind fun bt102=>(if a1 > 200 then ((spec_l1Cur_next.f s0_0 bt102.2.1 bt102.2.2).bind fun bt105=>(if a1 = 0 then (none) else (some (Int.tmod (wrap64 ((wrap64 (bt102.1 * 256)) + bt105.1)) a1,bt105.2.1,bt105.2.2)))) else (if a1 = 0 then (none) else (some (Int.tmod bt102.1 a1,bt102.2.1,bt102.2.2)))))
theorem spec_l1Cur_pick.calls (g:Nat) (s0_0:List Int) (s0_1:Int) (s0_2:Int) (a1:Int) (r1:Int) (r2:Int) (r3:Int) (As0_0:Option Addr) (cs0_0:Nat) (w0 w:World) (hI:w.heap[g]? = some (.cells #[.slice As0_0 s0_0.length cs0_0,.int .i64 s0_1,.int .u64 s0_2] 111 (0,0))) (hG:w0.heap.size ≤ g) (hS0_0:Kd.C (Kd.int .u8) w0 As0_0 s0_0.length s0_0) (hB:Below w0.heap.size w0 w) (h:spec_l1Cur_pick.f s0_0 s0_1 s0_2 a1 = some (r1,r2,r3)) :
    Calls Try.prog 114 #[.pointer (some ⟨g,0,none⟩),.int .i64 a1] w fun e w'=>e = .returned (.int .i64 r1)∧w'.heap[g]? = some (.cells #[.slice As0_0 s0_0.length cs0_0,.int .i64 r2,.int .u64 r3] 111 (0,0))∧Below w0.heap.size w0 w'∧Kept w w' (fun k_=>k_ = g):=by
 have S:=St.boxed hB hG hI (dg (Kd.heap_int .u8) (atI .u8) hS0_0 hB hG dn)
 clear hI hB
 have F:=S.fc
 have H:=h;clear h;unfold spec_l1Cur_pick.f at H
 replace H:=sp_ H;rcases H with ⟨c3,H⟩ | ⟨c3,H⟩
 · skip
   simp only [Option.some.injEq,Prod.mk.injEq] at H
   obtain ⟨rfl,rfl,rfl⟩:=H
   go_enter Try.func114,Try.ntmps114
   go_wp2
   go_ret
   exact ⟨(by first | rfl | (simp;done) | first | rfl | (simp [e0_,e1_] <;> rfl) | (simp [*,e0_,e1_] <;> rfl)),(by first | exact S.hb | simpa using S.hb (g:=g)),S.below,S.kept⟩
 · skip
   replace H:=Option.bind_eq_some_iff.mp H;obtain ⟨⟨t102,t103,t104⟩,A4,H⟩:=H;(try dsimp only at H)
   replace H:=sp_ H;rcases H with ⟨c5,H⟩ | ⟨c5,H⟩
   · skip
     replace H:=Option.bind_eq_some_iff.mp H;obtain ⟨⟨t105,t106,t107⟩,A6,H⟩:=H;(try dsimp only at H)
     replace H:=nn_ H;obtain ⟨c7,H⟩:=H
     replace c7:=cne c7
     simp only [Option.some.injEq,Prod.mk.injEq] at H
     obtain ⟨rfl,rfl,rfl⟩:=H
     go_enter Try.func114,Try.ntmps114
     go_wp2_with (first | ((with_reducible refine gate_callee (f:=187) rfl (L ?_));refine cl (some 9) Try.func187 (spec_l1Cur_next.calls g _ _ _ _ _ _ _ _ _ _ S.hb (S.hge g) hS0_0 S.below A4) (hargs:=by (simp only [ma_,mb_,mc_,F] <;> rfl)) (h:=?_);rintro e W ⟨rfl,hi,hb,hk⟩;refine ⟨_,rfl,?_⟩;obtain ⟨W_,hs_,hm_,S⟩:=S.mid g hi hb hk;replace S:=S.go hm_;clear F hi hb hk hs_ hm_ ;have F:=S.fc) | ((with_reducible refine gate_callee (f:=187) rfl (L ?_));refine cl (some 15) Try.func187 (spec_l1Cur_next.calls g _ _ _ _ _ _ _ _ _ _ S.hb (S.hge g) hS0_0 S.below A6) (hargs:=by (simp only [ma_,mb_,mc_,F] <;> rfl)) (h:=?_);rintro e W ⟨rfl,hi,hb,hk⟩;refine ⟨_,rfl,?_⟩;obtain ⟨W_,hs_,hm_,S⟩:=S.mid g hi hb hk;replace S:=S.go hm_;clear F hi hb hk hs_ hm_ ;have F:=S.fc))
     go_ret
     exact ⟨(by first | rfl | (simp;done) | first | rfl | (simp [e0_,e1_] <;> rfl) | (simp [*,e0_,e1_] <;> rfl)),(by first | exact S.hb | simpa using S.hb (g:=g)),S.below,S.kept⟩
   · skip
     replace H:=nn_ H;obtain ⟨c10,H⟩:=H
     replace c10:=cne c10
     simp only [Option.some.injEq,Prod.mk.injEq] at H
     obtain ⟨rfl,rfl,rfl⟩:=H
     go_enter Try.func114,Try.ntmps114
     go_wp2_with ((with_reducible refine gate_callee (f:=187) rfl (L ?_));refine cl (some 9) Try.func187 (spec_l1Cur_next.calls g _ _ _ _ _ _ _ _ _ _ S.hb (S.hge g) hS0_0 S.below A4) (hargs:=by (simp only [ma_,mb_,mc_,F] <;> rfl)) (h:=?_);rintro e W ⟨rfl,hi,hb,hk⟩;refine ⟨_,rfl,?_⟩;obtain ⟨W_,hs_,hm_,S⟩:=S.mid g hi hb hk;replace S:=S.go hm_;clear F hi hb hk hs_ hm_ ;have F:=S.fc)
     go_ret
     exact ⟨(by first | rfl | (simp;done) | first | rfl | (simp [e0_,e1_] <;> rfl) | (simp [*,e0_,e1_] <;> rfl)),(by first | exact S.hb | simpa using S.hb (g:=g)),S.below,S.kept⟩

/-! ### spec_l1Cur_among: function 118 -/
def spec_l1Cur_among.f (s0_0:List Int) (s0_1:Int) (s0_2:Int) (l1:List Int):Option (Int × Int × Int):=(spec_l1Cur_pick.f s0_0 s0_1 s0_2 (l1.length:Int)).bind fun bt108=>(if 0 ≤ bt108.1 then (if bt108.1 < (l1.length:Int) then (some (rd l1 bt108.1,bt108.2.1,bt108.2.2)) else (none)) else (none))
theorem spec_l1Cur_among.calls (g:Nat) (s0_0:List Int) (s0_1:Int) (s0_2:Int) (A1:Option Addr) (c1:Nat) (l1:List Int) (r1:Int) (r2:Int) (r3:Int) (As0_0:Option Addr) (cs0_0:Nat) (w0 w:World) (hI:w.heap[g]? = some (.cells #[.slice As0_0 s0_0.length cs0_0,.int .i64 s0_1,.int .u64 s0_2] 111 (0,0))) (hG:w0.heap.size ≤ g) (hS0_0:Kd.C (Kd.int .u8) w0 As0_0 s0_0.length s0_0) (hB:Below w0.heap.size w0 w) (hr1:∀ W_,Kept w W_ (fun k_=>k_ = g)→Kd.C (Kd.int .i64) W_ A1 l1.length l1) (hc1:l1.length ≤ c1) (h:spec_l1Cur_among.f s0_0 s0_1 s0_2 l1 = some (r1,r2,r3)) :
    Calls Try.prog 118 #[.pointer (some ⟨g,0,none⟩),.slice A1 l1.length c1] w fun e w'=>e = .returned (.int .i64 r1)∧w'.heap[g]? = some (.cells #[.slice As0_0 s0_0.length cs0_0,.int .i64 r2,.int .u64 r3] 111 (0,0))∧Below w0.heap.size w0 w'∧Kept w w' (fun k_=>k_ = g):=by
 have S:=St.boxed hB hG hI (dg (Kd.heap_int .u8) (atI .u8) hS0_0 hB hG (dk (atI .i64) hr1 hc1 dn))
 clear hI hB hr1 hc1
 have F:=S.fc
 have H:=h;clear h;unfold spec_l1Cur_among.f at H
 replace H:=Option.bind_eq_some_iff.mp H;obtain ⟨⟨t108,t109,t110⟩,A3,H⟩:=H;(try dsimp only at H)
 replace H:=np_ H;obtain ⟨c4,H⟩:=H
 replace H:=np_ H;obtain ⟨c5,H⟩:=H
 simp only [Option.some.injEq,Prod.mk.injEq] at H
 obtain ⟨rfl,rfl,rfl⟩:=H
 go_enter Try.func118,Try.ntmps118
 go_wp2_with ((with_reducible refine gate_callee (f:=114) rfl (L ?_));refine cl (some 9) Try.func114 (spec_l1Cur_pick.calls g _ _ _ _ _ _ _ _ _ _ _ S.hb (S.hge g) hS0_0 S.below A3) (hargs:=by (simp only [ma_,mb_,mc_,F] <;> rfl)) (h:=?_);rintro e W ⟨rfl,hi,hb,hk⟩;refine ⟨_,rfl,?_⟩;obtain ⟨W_,hs_,hm_,S⟩:=S.mid g hi hb hk;replace S:=S.go hm_;clear F hi hb hk hs_ hm_ ;have F:=S.fc)
 go_ret
 exact ⟨(by first | rfl | (simp;done) | first | rfl | (simp [e0_,e1_] <;> rfl) | (simp [*,e0_,e1_] <;> rfl)),(by first | exact S.hb | simpa using S.hb (g:=g)),S.below,S.kept⟩

/-! ### spec_l1Cur_one: function 123 -/
def spec_l1Cur_one.f (s0_0:List Int) (s0_1:Int) (s0_2:Int) (a1:Int):Option (Bool × Int × Int):=(spec_l1Cur_pick.f s0_0 s0_1 s0_2 a1).bind fun bt112=>(some ((bt112.1 == 0),bt112.2.1,bt112.2.2))
theorem spec_l1Cur_one.calls (g:Nat) (s0_0:List Int) (s0_1:Int) (s0_2:Int) (a1:Int) (r1:Bool) (r2:Int) (r3:Int) (As0_0:Option Addr) (cs0_0:Nat) (w0 w:World) (hI:w.heap[g]? = some (.cells #[.slice As0_0 s0_0.length cs0_0,.int .i64 s0_1,.int .u64 s0_2] 111 (0,0))) (hG:w0.heap.size ≤ g) (hS0_0:Kd.C (Kd.int .u8) w0 As0_0 s0_0.length s0_0) (hB:Below w0.heap.size w0 w) (h:spec_l1Cur_one.f s0_0 s0_1 s0_2 a1 = some (r1,r2,r3)) :
    Calls Try.prog 123 #[.pointer (some ⟨g,0,none⟩),.int .i64 a1] w fun e w'=>e = .returned (.bool r1)∧w'.heap[g]? = some (.cells #[.slice As0_0 s0_0.length cs0_0,.int .i64 r2,.int .u64 r3] 111 (0,0))∧Below w0.heap.size w0 w'∧Kept w w' (fun k_=>k_ = g):=by
 have S:=St.boxed hB hG hI (dg (Kd.heap_int .u8) (atI .u8) hS0_0 hB hG dn)
 clear hI hB
 have F:=S.fc
 have H:=h;clear h;unfold spec_l1Cur_one.f at H
 replace H:=Option.bind_eq_some_iff.mp H;obtain ⟨⟨t112,t113,t114⟩,A3,H⟩:=H;(try dsimp only at H)
 simp only [Option.some.injEq,Prod.mk.injEq] at H
 obtain ⟨rfl,rfl,rfl⟩:=H
 go_enter Try.func123,Try.ntmps123
 go_wp2_with ((with_reducible refine gate_callee (f:=114) rfl (L ?_));refine cl (some 7) Try.func114 (spec_l1Cur_pick.calls g _ _ _ _ _ _ _ _ _ _ _ S.hb (S.hge g) hS0_0 S.below A3) (hargs:=by (simp only [ma_,mb_,mc_,F] <;> rfl)) (h:=?_);rintro e W ⟨rfl,hi,hb,hk⟩;refine ⟨_,rfl,?_⟩;obtain ⟨W_,hs_,hm_,S⟩:=S.mid g hi hb hk;replace S:=S.go hm_;clear F hi hb hk hs_ hm_ ;have F:=S.fc)
 go_ret
 exact ⟨(by first | rfl | (simp;done) | first | rfl | (simp [e0_,e1_] <;> rfl) | (simp [*,e0_,e1_] <;> rfl)),(by first | exact S.hb | simpa using S.hb (g:=g)),S.below,S.kept⟩

/-! ### spec_syBoard: function 95 -/
def spec_syBoard.l0:Nat→Int→Int→Int→Int→List (S42)→List Int→List Int→Int→Int→List (S42)→Option (Int × Int × (List (S42)))
  | 0,_,_,_,_,_,_,_,_,_,_=>none
  | k + 1,x1,x6,x116000,x116001,x116002,x116003,x116004,x121000,x121001,x121002=>if x6 ≥ 0 then (if (wrap64 ((x116002.length:Int) + 1)) = 0 then (none) else (if (Int.tmod x1 (wrap64 ((x116002.length:Int) + 1))) > 0 then (if 0 ≤ (wrap64 ((Int.tmod x1 (wrap64 ((x116002.length:Int) + 1))) - 1)) then (if (wrap64 ((Int.tmod x1 (wrap64 ((x116002.length:Int) + 1))) - 1)) < (x116002.length:Int) then (if 0 ≤ x6 then (if x6 < (x121002.length:Int) then (spec_syBoard.l0 k (wrap64 (Int.tdiv x1 (wrap64 ((x116002.length:Int) + 1)))) (wrap64 (x6 - 1)) x116000 x116001 x116002 x116003 x116004 x121000 x121001 (x121002.set (x6:Int).toNat (⟨(rd_T42 x116002 (wrap64 ((Int.tmod x1 (wrap64 ((x116002.length:Int) + 1))) - 1))).f0,(rd_T42 x116002 (wrap64 ((Int.tmod x1 (wrap64 ((x116002.length:Int) + 1))) - 1))).f1⟩:S42))) else (none)) else (none)) else (none)) else (none)) else (spec_syBoard.l0 k (wrap64 (Int.tdiv x1 (wrap64 ((x116002.length:Int) + 1)))) (wrap64 (x6 - 1)) x116000 x116001 x116002 x116003 x116004 x121000 x121001 x121002))) else (some (x121000,x121001,x121002))
def spec_syBoard.f (k:Nat) (a0_0:Int) (a0_1:Int) (l0_2:List (S42)) (l0_3:List Int) (l0_4:List Int) (a1:Int):Option (Int × Int × (List (S42))):=if 0 ≤ (wrap64 (a0_0 * a0_1)) then (if (wrap64 (a0_0 * a0_1):Int).toNat ≤ 17592186044416 then ((some (List.replicate (wrap64 (a0_0 * a0_1):Int).toNat z42:List (S42))).bind fun y117=>(spec_syBoard.l0 k a1 (wrap64 ((y117.length:Int) - 1)) a0_0 a0_1 l0_2 l0_3 l0_4 a0_0 a0_1 y117)) else (none)) else (none)
theorem spec_syBoard.calls (k:Nat) (a0_0:Int) (a0_1:Int) (A0_2:Option Addr) (c0_2:Nat) (l0_2:List (S42)) (A0_3:Option Addr) (c0_3:Nat) (l0_3:List Int) (A0_4:Option Addr) (c0_4:Nat) (l0_4:List Int) (a1:Int) (r1:Int) (r2:Int) (r3:List (S42)) (w:World) (hr0_2:Kd.C k42 w A0_2 l0_2.length l0_2) (hc0_2:l0_2.length ≤ c0_2) (hr0_3:Kd.C (Kd.int .i64) w A0_3 l0_3.length l0_3) (hc0_3:l0_3.length ≤ c0_3) (hr0_4:Kd.C (Kd.int .i64) w A0_4 l0_4.length l0_4) (hc0_4:l0_4.length ≤ c0_4) (h:spec_syBoard.f k a0_0 a0_1 l0_2 l0_3 l0_4 a1 = some (r1,r2,r3)) :
    Calls Try.prog 95 #[.agg #[.int .i64 a0_0,.int .i64 a0_1,.slice A0_2 l0_2.length c0_2,.slice A0_3 l0_3.length c0_3,.slice A0_4 l0_4.length c0_4],.int .i64 a1] w fun e w'=>∃ v2_:Value,e = .returned (.agg #[.int .i64 r1,.int .i64 r2,v2_])∧Kd.R k42 42 w' w.heap.size (fun _=>True) v2_ r3∧Below w.heap.size w w':=by
 have S:=St.init (w:=w) (dc k42_heap at42 hr0_2 hc0_2 (dc (Kd.heap_int .i64) (atI .i64) hr0_3 hc0_3 (dc (Kd.heap_int .i64) (atI .i64) hr0_4 hc0_4 dn)))
 clear hr0_2 hc0_2 hr0_3 hc0_3 hr0_4 hc0_4
 have F:=S.fc
 have H:=h;clear h;unfold spec_syBoard.f at H
 obtain ⟨ji3,hji3⟩:∃ j_:Int,(wrap64 (a0_0 * a0_1)) = j_:=⟨_,rfl⟩;simp only [hji3] at H
 have hji3w:(IntKind.i64.wrap (a0_0 * a0_1)) = ji3:=(i64_w _).trans hji3
 replace H:=np_ H;obtain ⟨c4,H⟩:=H
 replace H:=np_ H;obtain ⟨c5,H⟩:=H
 (first | (with_reducible replace H:=ob_ H;obtain ⟨y117,hy117,H⟩:=H;(try dsimp only at H)) | (obtain ⟨y117,hy117⟩:∃ y_:List (S42),y_ = (List.replicate (ji3:Int).toNat z42):=⟨_,rfl⟩;(try rw [← hy117] at H);(try simp only [Option.bind_some] at H)));have Ny117:=Aside0.mk hy117;clear hy117
 go_enter Try.func95,Try.ntmps95
 go_wp2_with (first | ((with_reducible refine gd 2 rfl (L ?_));refine bo 2 (.agg #[_,_,_,_,_]) S ?_;clear S F;intro gb115 W S;have F:=S.fc) | ((with_reducible refine gd 4 rfl (L ?_));refine al 4 S zi30 ?_;clear S F;intro gb116 W S;have F:=S.fc))
 refine rgF S (fun _ S=>S) (fkc 11 5 zi30 fk0) [(0,0),(0,2),(0,4),(0,6),(1,1),(1,3),(1,5),(1,7),(0,8),(2,9),(0,10)] [(3,12)] [12] (id:=1) (h:=?_);clear S F;intro W S;have S0:=S;have F:=S.fc
 repeat (first | (refine f0 (h:=?_)) | (refine f1 S0 (h:=?_)))
 refine fe2 S (by rfl) ?_;intro x5_ X W S;simp only [List.cons_append,List.nil_append,putF,Act.put,za_,zb_,zc_] at S ⊢;clear F;have F:=S.fc;refine ⟨rfl,?_⟩;refine mka 17 at42 S Try.underlying24 info42 ?_;clear S F;intro Ay117 cy117 W S;(try simp only [Int.reduceToNat] at S ⊢);(try rw [← Ny117.out] at S ⊢);have F:=S.fc
 clear S0;have S0:=(S.nx X).tl;refine ⟨S0,?_⟩
 repeat (refine f0 (h:=?_))
 refine fz S ?_;intro gb120 W S;simp only [bxs,fbox,ptr,List.map_cons,List.map_nil,List.cons_append,List.nil_append,putF,Act.put,za_,zb_,zc_] at S ⊢;clear F S0;have S0:=S.tl.tl;have F:=S.fc
 refine lk3 (by rfl) (by exact (Eq.refl true)) ?_;(first | refine sb (.agg #[_,_,_]) S sz30 ?_ | refine ro (.agg #[_,_,_]) S sz30 ?_ (ho:=rfl) (hx:=rfl) (hy:=rfl) | refine sb (.agg #[_,_]) S sz42 ?_ | refine ro (.agg #[_,_]) S sz42 ?_ (ho:=rfl) (hx:=rfl) (hy:=rfl));clear S F;intro W S;(try simp only [gd42] at S);(try rw [← Ny117.out] at S);have F:=S.fc
 refine oz ?_
 try clear S0
 go_wp2
 go_loopg [1,6] k (fun kq v1 v6 w'=>∃ (x1_1:Int) (x6_1:Int) (x121002_1:List (S42)) (Ax121002_1:Option Addr) (cx121002_1:Nat),v1 = .int .i64 x1_1∧v6 = .int .i64 x6_1∧spec_syBoard.l0 kq x1_1 x6_1 a0_0 a0_1 l0_2 l0_3 l0_4 a0_0 a0_1 x121002_1 = some (r1,r2,r3)∧kq ≤ k∧St w w (fun _=>False) [bor at42 A0_2 c0_2 l0_2,bor (atI .i64) A0_3 c0_3 l0_3,bor (atI .i64) A0_4 c0_4 l0_4] w'  [box gb120 30 [.int .i64 a0_0,.int .i64 a0_1,.slice Ax121002_1 x121002_1.length cx121002_1],row at42 42 Ax121002_1 x121002_1.length cx121002_1 x121002_1,box gb116 30 [.int .i64 0,.int .i64 0,.slice none 0 0],box gb115 27 [.int .i64 a0_0,.int .i64 a0_1,.slice A0_2 l0_2.length c0_2,.slice A0_3 l0_3.length c0_3,.slice A0_4 l0_4.length c0_4]])
 case atStart=>exact ⟨a1,(wrap64 ((y117.length:Int) - 1)),y117,_,_,(by first | rfl | (simp;done) | (simp [*];done) | (rw [w6_ (by omega) (by omega)])),(by first | rfl | (simp;done) | (simp [*];done) | (rw [w6_ (by omega) (by omega)])),H,Nat.le_refl _,S⟩
 case round =>
  clear H S F
  obtain ⟨x1_1,x6_1,x121002_1,Ax121002_1,cx121002_1,rfl,rfl,HA,HK1,S⟩:=hrel
  have F:=S.fc
  cases gk with
  | zero=>exact absurd HA (by simp [spec_syBoard.l0])
  | succ k1 =>
   have H:=HA;clear HA;simp only [spec_syBoard.l0,F] at H
   replace H:=sp_ H;rcases H with ⟨c21,H⟩ | ⟨c21,H⟩
   · skip
     replace H:=nn_ H;obtain ⟨c22,H⟩:=H
     replace c22:=cne c22
     replace H:=sp_ H;rcases H with ⟨c23,H⟩ | ⟨c23,H⟩
     · skip
       obtain ⟨ji24,hji24⟩:∃ j_:Int,(wrap64 ((Int.tmod x1_1 (wrap64 ((l0_2.length:Int) + 1))) - 1)) = j_:=⟨_,rfl⟩;simp only [hji24] at H
       have hji24w:(IntKind.i64.wrap ((Int.tmod x1_1 (wrap64 ((l0_2.length:Int) + 1))) - 1)) = ji24:=(i64_w _).trans hji24
       replace H:=np_ H;obtain ⟨c25,H⟩:=H
       replace H:=np_ H;obtain ⟨c26,H⟩:=H
       replace H:=np_ H;obtain ⟨c27,H⟩:=H
       replace H:=np_ H;obtain ⟨c28,H⟩:=H
       (first | (with_reducible replace H:=ob_ H;obtain ⟨y122,hy122,H⟩:=H;(try dsimp only at H)) | (obtain ⟨y122,hy122⟩:∃ y_:List (S42),y_ = (x121002_1.set (x6_1:Int).toNat (⟨(rd_T42 l0_2 (ji24)).f0,(rd_T42 l0_2 (ji24)).f1⟩:S42)):=⟨_,rfl⟩;(try rw [← hy122] at H);(try simp only [Option.bind_some] at H)));have Ny122:=Aside0.mk hy122;clear hy122
       go_wp2
       refine rq S [(0,0),(0,2),(0,3),(0,5),(0,6),(1,1),(1,4),(0,7),(1,8),(0,9),(3,10)] [10] (h:=?_);clear S F;intro W S;have S0:=S;have F:=S.fc
       repeat (first | (refine q0 (h:=?_)) | (refine q1 S0 (h:=?_)))
       refine lk3 (by rfl) (by exact (Eq.refl true)) ?_;(first | refine sb (.agg #[_,_,_]) S sz30 ?_ | refine ro (.agg #[_,_,_]) S sz30 ?_ (ho:=rfl) (hx:=rfl) (hy:=rfl) | refine sb (.agg #[_,_]) S sz42 ?_ | refine ro (.agg #[_,_]) S sz42 ?_ (ho:=rfl) (hx:=rfl) (hy:=rfl));clear S F;intro W S;(try simp only [gd42] at S);(try rw [← Ny117.out] at S);(try rw [← Ny122.out] at S);have F:=S.fc
       refine oz ?_
       try clear S0
       go_wp2
       go_roundg k1
       case measure=>omega
       case rel=>(try rw [← (show y122.length = x121002_1.length by first | simp only [F] | (have F_:=F;simp only [Ny122.out,List.length_set] at F_;simp only [F_]))] at S);exact ⟨(wrap64 (Int.tdiv x1_1 (wrap64 ((l0_2.length:Int) + 1)))),(wrap64 (x6_1 - 1)),y122,_,_,(by first | rfl | (simp;done) | (simp [*];done) | (rw [w6_ (by omega) (by omega)])),(by first | rfl | (simp;done) | (simp [*];done) | (rw [w6_ (by omega) (by omega)])),H,(by first | omega | exact Nat.le_refl _),S⟩
     · skip
       go_wp2
       go_roundg k1
       case measure=>omega
       case rel=>exact ⟨(wrap64 (Int.tdiv x1_1 (wrap64 ((l0_2.length:Int) + 1)))),(wrap64 (x6_1 - 1)),x121002_1,_,_,(by first | rfl | (simp;done) | (simp [*];done) | (rw [w6_ (by omega) (by omega)])),(by first | rfl | (simp;done) | (simp [*];done) | (rw [w6_ (by omega) (by omega)])),H,(by first | omega | exact Nat.le_refl _),S⟩
   · skip
     simp only [Option.some.injEq,Prod.mk.injEq] at H
     obtain ⟨rfl,rfl,rfl⟩:=H
     go_wp2_with ((with_reducible refine gs (t:=30) rfl (L ?_));refine sb (.agg #[_,_,_]) S sz30 ?_;clear S F;intro W S;(try simp only [gd42] at S);(try rw [← Ny117.out] at S);have F:=S.fc)
     refine bodyPost_ret (results_cell_row rfl _ _ gb116 30 #[.int .i64 a0_0,.int .i64 a0_1,.slice Ax121002_1 x121002_1.length cx121002_1] (0,0) _ rfl S.hb Try.underlying30 rfl (by kernel_rfl)) rfl ?_
     exact ⟨_,(by first | rfl | (simp [e0_,e1_] <;> rfl) | (simp [*,e0_,e1_] <;> rfl)),(by first | exact S.r | exact Kd.R_nil _ _ _ _ _),S.below⟩

/-! ### spec_syPower: function 188 -/
def spec_syPower.l0:Nat→Int→Int→Int→Option (Int)
 | 0,_,_,_=>none
 | k + 1,x0,x1,x5=>if x1 > 0 then (if x5 ≤ 7000 then (spec_syPower.l0 k x0 (wrap64 (x1 - 1)) (wrap64 (x5 * x0))) else (some x5)) else (some x5)
def spec_syPower.f (k:Nat) (a0:Int) (a1:Int):Option (Int):=spec_syPower.l0 k a0 a1 1
theorem spec_syPower.calls (k:Nat) (a0:Int) (a1:Int) (r:Int) (w:World) (h:spec_syPower.f k a0 a1 = some r) :
  Calls Try.prog 188 #[.int .i64 a0,.int .i64 a1] w fun e w'=>e = .returned (.int .i64 r)∧Drawn0 w w':=by
 have H:(spec_syPower.l0 k a0 a1 1) = some r:=h;clear h;have H':=Aside0.mk H;clear H;go_enter Try.func188,Try.ntmps188;go_wp2;go_loopg [1,5] k (fun kq v1 v5 w'=>∃ (x1_1:Int) (x5_1:Int),v1 = .int .i64 x1_1∧v5 = .int .i64 x5_1∧Aside0 (spec_syPower.l0 kq a0 x1_1 x5_1 = some r)∧Aside0 (kq ≤ k)∧Drawn0 w w')
 case atStart=>exact ⟨(a1),(1),(by first | rfl | (simp;done) | (simp [*];done)),(by first | rfl | (simp;done) | (simp [*];done)),H',⟨Nat.le_refl _⟩,by repeat (first | exact Drawn0.refl _ | apply Drawn0.step)⟩
 case round =>
  clear H';(try clear c1);(try clear p2);obtain ⟨x1_1,x5_1,rfl,rfl,HA,HK1,⟨m1,rfl⟩⟩:=hrel;cases gk with
  | zero=>exact absurd HA.out (by simp [spec_syPower.l0])
  | succ k1 =>
   have H:=HA.out;clear HA;simp only [spec_syPower.l0] at H;by_cases c3:x1_1 > 0
   ·rw [if_pos c3] at H;have c3b0:decide (0 < x1_1) = true:=decide_eq_true c3;clear c3;by_cases c4:x5_1 ≤ 7000
    ·rw [if_pos c4] at H;have c4b0:decide (x5_1 ≤ 7000) = true:=decide_eq_true c4;clear c4;have H':=Aside0.mk H;clear H;go_wp2;go_roundg k1
     case measure=>have:=HK1.out;omega
     case rel=>exact ⟨(wrap64 (x1_1 - 1)),(wrap64 (x5_1 * a0)),(by first | rfl | (simp;done) | (simp [*];done)),(by first | rfl | (simp;done) | (simp [*];done)),H',⟨by have:=HK1.out;omega⟩,by repeat (first | exact Drawn0.refl _ | apply Drawn0.step)⟩
    ·rw [if_neg c4] at H;have c4b0:decide (x5_1 ≤ 7000) = false:=decide_eq_false c4;clear c4;obtain rfl:=Option.some.inj H;go_wp2;go_ret;exact ⟨by first | rfl | (simp;done) | (simp [*];done),by repeat (first | exact Drawn0.refl _ | apply Drawn0.step)⟩
   ·rw [if_neg c3] at H;have c3b0:decide (0 < x1_1) = false:=decide_eq_false c3;clear c3;obtain rfl:=Option.some.inj H;go_wp2;go_ret;exact ⟨by first | rfl | (simp;done) | (simp [*];done),by repeat (first | exact Drawn0.refl _ | apply Drawn0.step)⟩

/-! ### spec_syTried: function 129 -/
def spec_syTried.f (k:Nat) (a0_0:Int) (a0_1:Int) (l0_2:List (S42)) (l0_3:List Int) (l0_4:List Int):Option (Int):=(spec_syPower.f k (wrap64 ((l0_2.length:Int) + 1)) (wrap64 (a0_0 * a0_1))).bind fun t124=>(some t124)
theorem spec_syTried.calls (k:Nat) (a0_0:Int) (a0_1:Int) (A0_2:Option Addr) (c0_2:Nat) (l0_2:List (S42)) (A0_3:Option Addr) (c0_3:Nat) (l0_3:List Int) (A0_4:Option Addr) (c0_4:Nat) (l0_4:List Int) (r:Int) (w:World) (hr0_2:Kd.C k42 w A0_2 l0_2.length l0_2) (hc0_2:l0_2.length ≤ c0_2) (hr0_3:Kd.C (Kd.int .i64) w A0_3 l0_3.length l0_3) (hc0_3:l0_3.length ≤ c0_3) (hr0_4:Kd.C (Kd.int .i64) w A0_4 l0_4.length l0_4) (hc0_4:l0_4.length ≤ c0_4) (h:spec_syTried.f k a0_0 a0_1 l0_2 l0_3 l0_4 = some r) :
    Calls Try.prog 129 #[.agg #[.int .i64 a0_0,.int .i64 a0_1,.slice A0_2 l0_2.length c0_2,.slice A0_3 l0_3.length c0_3,.slice A0_4 l0_4.length c0_4]] w fun e w'=>e = .returned (.int .i64 r)∧Below w.heap.size w w':=by
 have S:=St.init (w:=w) (dc k42_heap at42 hr0_2 hc0_2 (dc (Kd.heap_int .i64) (atI .i64) hr0_3 hc0_3 (dc (Kd.heap_int .i64) (atI .i64) hr0_4 hc0_4 dn)))
 clear hr0_2 hc0_2 hr0_3 hc0_3 hr0_4 hc0_4
 have F:=S.fc
 have H:=h;clear h;unfold spec_syTried.f at H
 replace H:=Option.bind_eq_some_iff.mp H;obtain ⟨t124,A2,H⟩:=H;(try dsimp only at H)
 obtain rfl:=Option.some.inj H
 go_enter Try.func129,Try.ntmps129
 go_wp2_with (first | ((with_reducible refine gd 1 rfl (L ?_));refine bo 1 (.agg #[_,_,_,_,_]) S ?_;clear S F;intro gb123 W S;have F:=S.fc) | ((with_reducible refine gate_callee (f:=188) rfl (L ?_));refine cl (some 12) Try.func188 (spec_syPower.calls _ _ _ _ _ A2) (hargs:=by (simp only [ma_,mb_,mc_,F] <;> rfl)) (h:=?_);rintro e W ⟨rfl,hb⟩;refine ⟨_,rfl,?_⟩;replace S:=S.gw hb;clear F hb;have F:=S.fc))
 go_ret
 exact ⟨(by first | rfl | (simp [e0_,e1_] <;> rfl) | (simp [*,e0_,e1_] <;> rfl)),S.below⟩

/-! ### spec_ggGear: function 209 -/
def spec_ggGear.f (a0_0:Int) (a0_1:Int):Option (Bool):=if a0_0 = 6 then (some true) else (some (a0_0 == 7))
theorem spec_ggGear.calls (a0_0:Int) (a0_1:Int) (r:Bool) (w:World) (h:spec_ggGear.f a0_0 a0_1 = some r) :
    Calls Try.prog 209 #[.agg #[.int .i64 a0_0,.int .i64 a0_1]] w fun e w'=>e = .returned (.bool r)∧Below w.heap.size w w':=by
 have S:=St.init (w:=w) dn
 have F:=S.fc
 have H:=h;clear h;unfold spec_ggGear.f at H
 replace H:=sp_ H;rcases H with ⟨c2,H⟩ | ⟨c2,H⟩
 · skip
   replace c2:=ceq c2
   obtain rfl:=Option.some.inj H
   go_enter Try.func209,Try.ntmps209
   go_wp2_with ((with_reducible refine gd 1 rfl (L ?_));refine bo 1 (.agg #[_,_]) S ?_;clear S F;intro gb125 W S;have F:=S.fc)
   go_ret
   exact ⟨(by first | rfl | (simp [e0_,e1_] <;> rfl) | (simp [*,e0_,e1_] <;> rfl)),S.below⟩
 · skip
   replace c2:=cne c2
   obtain rfl:=Option.some.inj H
   go_enter Try.func209,Try.ntmps209
   go_wp2_with ((with_reducible refine gd 1 rfl (L ?_));refine bo 1 (.agg #[_,_]) S ?_;clear S F;intro gb125 W S;have F:=S.fc)
   go_ret
   exact ⟨(by first | rfl | (simp [e0_,e1_] <;> rfl) | (simp [*,e0_,e1_] <;> rfl)),S.below⟩

/-! ### spec_ggNear: function 210 -/
mutual
def spec_ggNear.j0:Nat→Int→Int→Int→List Int→Int→Int→List (S42)→Option (List Int)
  | 0,_,_,_,_,_,_,_=>none
  | k + 1,x1,x5,x6,x7,x127000,x127001,x127002=>if x6 > 0 then (if x7.length < 17592186044416 then (spec_ggNear.j1 k x1 x5 x6 (x7 ++ [wrap64 (x1 - 1)]) x127000 x127001 x127002) else (none)) else (spec_ggNear.j1 k x1 x5 x6 x7 x127000 x127001 x127002)
def spec_ggNear.j1:Nat→Int→Int→Int→List Int→Int→Int→List (S42)→Option (List Int)
  | 0,_,_,_,_,_,_,_=>none
  | k + 1,x1,x5,x6,x7,x127000,x127001,x127002=>if (wrap64 (x6 + 1)) < x127001 then (if x7.length < 17592186044416 then ((some (x7 ++ [wrap64 (x1 + 1)]:List Int)).bind fun y133=>(if (wrap64 (x5 + 1)) < x127000 then (if y133.length < 17592186044416 then (some (y133 ++ [wrap64 (x1 + x127001)])) else (none)) else (some y133))) else (none)) else (if (wrap64 (x5 + 1)) < x127000 then (if x7.length < 17592186044416 then (some (x7 ++ [wrap64 (x1 + x127001)])) else (none)) else (some x7))
end
def spec_ggNear.f (k:Nat) (a0_0:Int) (a0_1:Int) (l0_2:List (S42)) (a1:Int):Option (List Int):=if a0_1 = 0 then (none) else (if (wrap64 (Int.tdiv a1 a0_1)) > 0 then (if ([]:List Int).length < 17592186044416 then (spec_ggNear.j0 k a1 (wrap64 (Int.tdiv a1 a0_1)) (Int.tmod a1 a0_1) (([]:List Int) ++ [wrap64 (a1 - a0_1)]) a0_0 a0_1 l0_2) else (none)) else (spec_ggNear.j0 k a1 (wrap64 (Int.tdiv a1 a0_1)) (Int.tmod a1 a0_1) ([]:List Int) a0_0 a0_1 l0_2))
theorem spec_ggNear.calls (k:Nat) (a0_0:Int) (a0_1:Int) (A0_2:Option Addr) (c0_2:Nat) (l0_2:List (S42)) (a1:Int) (r:List Int) (w:World) (hr0_2:Kd.C k42 w A0_2 l0_2.length l0_2) (hc0_2:l0_2.length ≤ c0_2) (h:spec_ggNear.f k a0_0 a0_1 l0_2 a1 = some r) :
    Calls Try.prog 210 #[.agg #[.int .i64 a0_0,.int .i64 a0_1,.slice A0_2 l0_2.length c0_2],.int .i64 a1] w fun e w'=>∃ v0_:Value,e = .returned (v0_)∧Kd.R (Kd.int .i64) 3 w' w.heap.size (fun _=>True) v0_ r∧Below w.heap.size w w':=by
 have S:=St.init (w:=w) (dc k42_heap at42 hr0_2 hc0_2 dn)
 clear hr0_2 hc0_2
 have F:=S.fc
 have H:=h;clear h;unfold spec_ggNear.f at H
 replace H:=nn_ H;obtain ⟨c3,H⟩:=H
 replace c3:=cne c3
 go_enter Try.func210,Try.ntmps210
 go_upto_if 17 with ((with_reducible refine gd 2 rfl (L ?_));refine bo 2 (.agg #[_,_,_]) S ?_;clear S F;intro gb126 W S;have F:=S.fc)
 go_upto_if 17 with (first | ((refine rq (id:=1) S [(0,0),(0,1),(0,4),(0,5),(1,2),(0,3),(0,8),(1,6),(0,7),(0,9)] [] (h:=?_);clear S F;intro W S;have S0:=S;have F:=S.fc)) | (refine q0 (h:=?_)) | (refine q1 S0 (h:=?_)) | refine oz ?_)
 (try simp only [Act.put,List.setIfInBounds_toArray,List.set_cons_zero,List.set_cons_succ])
 go_cut [7] (fun v7 wc=>∃ (kq:Nat) (x7_3:List Int) (Ax7_3:Option Addr) (cx7_3:Nat),v7 = .slice Ax7_3 x7_3.length cx7_3∧spec_ggNear.j0 kq a1 (wrap64 (Int.tdiv a1 a0_1)) (Int.tmod a1 a0_1) x7_3 a0_0 a0_1 l0_2 = some r∧kq ≤ k∧St w w (fun _=>False) [bor at42 A0_2 c0_2 l0_2] wc  [row (atI .i64) 3 Ax7_3 x7_3.length cx7_3 x7_3,box gb126 30 [.int .i64 a0_0,.int .i64 a0_1,.slice A0_2 l0_2.length c0_2]])
 case first =>
  replace H:=sp_ H;rcases H with ⟨c7,H⟩ | ⟨c7,H⟩
  · skip
    replace H:=np_ H;obtain ⟨c8,H⟩:=H
    (first | (with_reducible replace H:=ob_ H;obtain ⟨y127,hy127,H⟩:=H;(try dsimp only at H)) | (obtain ⟨y127,hy127⟩:∃ y_:List Int,y_ = (([]:List Int) ++ [wrap64 (a1 - a0_1)]):=⟨_,rfl⟩;(try rw [← hy127] at H);(try simp only [Option.bind_some] at H)));have Ny127:=Aside0.mk hy127;clear hy127
    go_wp2_with ((with_reducible refine gd 24 rfl (L ?_));replace S:=S.nl (e:=3) (atI .i64);refine apa (A:=none) 24 S Try.underlying25 info3 ?_ (ho:=rfl) (hs:=rfl) (hx:=rfl);clear S F;intro Ay127 cy127 W S;(try rw [← Ny127.out] at S ⊢);have F:=S.fc)
    go_wp2
    go_meet
    case rel=>exact ⟨_,y127,_,_,rfl,H,(by first | omega | exact Nat.le_refl _),S⟩
  · skip
    go_wp2
    go_wp2
    go_meet
    case rel=>exact ⟨_,_,_,_,rfl,H,(by first | omega | exact Nat.le_refl _),(S.nl (e:=3) (atI .i64))⟩
 case rest =>
  clear H S F
  obtain ⟨kq,x7_3,Ax7_3,cx7_3,rfl,HA,HJ3,S⟩:=hcut
  have F:=S.fc
  cases kq with
  | zero=>exact absurd HA (by simp [spec_ggNear.j0])
  | succ kj3 =>
   have H:=HA;clear HA;simp only [spec_ggNear.j0,F] at H
   go_upto_if 26 with (fail)
   go_upto_if 26 with (fail)
   go_cut [7] (fun v7 wc=>∃ (kq:Nat) (x7_10:List Int) (Ax7_10:Option Addr) (cx7_10:Nat),v7 = .slice Ax7_10 x7_10.length cx7_10∧spec_ggNear.j1 kq a1 (wrap64 (Int.tdiv a1 a0_1)) (Int.tmod a1 a0_1) x7_10 a0_0 a0_1 l0_2 = some r∧kq ≤ kj3∧St w w (fun _=>False) [bor at42 A0_2 c0_2 l0_2] wc  [row (atI .i64) 3 Ax7_10 x7_10.length cx7_10 x7_10,box gb126 30 [.int .i64 a0_0,.int .i64 a0_1,.slice A0_2 l0_2.length c0_2]])
   case first =>
    replace H:=sp_ H;rcases H with ⟨c12,H⟩ | ⟨c12,H⟩
    · skip
      replace H:=np_ H;obtain ⟨c13,H⟩:=H
      (first | (with_reducible replace H:=ob_ H;obtain ⟨y130,hy130,H⟩:=H;(try dsimp only at H)) | (obtain ⟨y130,hy130⟩:∃ y_:List Int,y_ = (x7_3 ++ [wrap64 (a1 - 1)]):=⟨_,rfl⟩;(try rw [← hy130] at H);(try simp only [Option.bind_some] at H)));have Ny130:=Aside0.mk hy130;clear hy130
      go_wp2_with ((with_reducible refine gd 31 rfl (L ?_));refine apa (A:=Ax7_3) 31 S Try.underlying25 info3 ?_ (ho:=rfl) (hs:=rfl) (hx:=rfl);clear S F;intro Ay130 cy130 W S;(try rw [← Ny130.out] at S ⊢);have F:=S.fc)
      go_wp2
      go_meet
      case rel=>exact ⟨_,y130,_,_,rfl,H,(by first | omega | exact Nat.le_refl _),S⟩
    · skip
      go_wp2
      go_wp2
      go_meet
      case rel=>exact ⟨_,x7_3,_,_,rfl,H,(by first | omega | exact Nat.le_refl _),S⟩
   case rest =>
    clear H S F
    obtain ⟨kq,x7_10,Ax7_10,cx7_10,rfl,HA,HJ10,S⟩:=hcut
    have F:=S.fc
    cases kq with
    | zero=>exact absurd HA (by simp [spec_ggNear.j1])
    | succ kj10 =>
     have H:=HA;clear HA;simp only [spec_ggNear.j1,F] at H
     replace H:=sp_ H;rcases H with ⟨c15,H⟩ | ⟨c15,H⟩
     · skip
       replace H:=np_ H;obtain ⟨c16,H⟩:=H
       (first | (with_reducible replace H:=ob_ H;obtain ⟨y133,hy133,H⟩:=H;(try dsimp only at H)) | (obtain ⟨y133,hy133⟩:∃ y_:List Int,y_ = (x7_10 ++ [wrap64 (a1 + 1)]):=⟨_,rfl⟩;(try rw [← hy133] at H);(try simp only [Option.bind_some] at H)));have Ny133:=Aside0.mk hy133;clear hy133
       replace H:=sp_ H;rcases H with ⟨c17,H⟩ | ⟨c17,H⟩
       · skip
         replace H:=np_ H;obtain ⟨c18,H⟩:=H
         (first | (with_reducible replace H:=ob_ H;obtain ⟨y136,hy136,H⟩:=H;(try dsimp only at H)) | (obtain ⟨y136,hy136⟩:∃ y_:List Int,y_ = (y133 ++ [wrap64 (a1 + a0_1)]):=⟨_,rfl⟩;(try rw [← hy136] at H);(try simp only [Option.bind_some] at H)));have Ny136:=Aside0.mk hy136;clear hy136
         obtain rfl:=Option.some.inj H
         go_wp2_with (first | ((with_reducible refine gd 41 rfl (L ?_));refine apa (A:=Ax7_10) 41 S Try.underlying25 info3 ?_ (ho:=rfl) (hs:=rfl) (hx:=rfl);clear S F;intro Ay133 cy133 W S;(try rw [← Ny133.out] at S ⊢);(try rw [← Ny136.out] at S ⊢);have F:=S.fc) | ((with_reducible refine gd 53 rfl (L ?_));refine apa (A:=Ay133) 53 S Try.underlying25 info3 ?_ (ho:=rfl) (hs:=rfl) (hx:=rfl);clear S F;intro Ay136 cy136 W S;(try rw [← Ny133.out] at S ⊢);(try rw [← Ny136.out] at S ⊢);have F:=S.fc))
         go_wp2
         go_ret
         exact ⟨_,(by first | rfl | (simp [e0_,e1_] <;> rfl) | (simp [*,e0_,e1_] <;> rfl)),(by first | exact S.r | exact Kd.R_nil _ _ _ _ _),S.below⟩
       · skip
         obtain rfl:=Option.some.inj H
         go_wp2_with ((with_reducible refine gd 41 rfl (L ?_));refine apa (A:=Ax7_10) 41 S Try.underlying25 info3 ?_ (ho:=rfl) (hs:=rfl) (hx:=rfl);clear S F;intro Ay133 cy133 W S;(try rw [← Ny133.out] at S ⊢);have F:=S.fc)
         go_wp2
         go_ret
         exact ⟨_,(by first | rfl | (simp [e0_,e1_] <;> rfl) | (simp [*,e0_,e1_] <;> rfl)),(by first | exact S.r | exact Kd.R_nil _ _ _ _ _),S.below⟩
     · skip
       replace H:=sp_ H;rcases H with ⟨c26,H⟩ | ⟨c26,H⟩
       · skip
         replace H:=np_ H;obtain ⟨c27,H⟩:=H
         (first | (with_reducible replace H:=ob_ H;obtain ⟨y139,hy139,H⟩:=H;(try dsimp only at H)) | (obtain ⟨y139,hy139⟩:∃ y_:List Int,y_ = (x7_10 ++ [wrap64 (a1 + a0_1)]):=⟨_,rfl⟩;(try rw [← hy139] at H);(try simp only [Option.bind_some] at H)));have Ny139:=Aside0.mk hy139;clear hy139
         obtain rfl:=Option.some.inj H
         go_wp2_with ((with_reducible refine gd 53 rfl (L ?_));refine apa (A:=Ax7_10) 53 S Try.underlying25 info3 ?_ (ho:=rfl) (hs:=rfl) (hx:=rfl);clear S F;intro Ay139 cy139 W S;(try rw [← Ny139.out] at S ⊢);have F:=S.fc)
         go_wp2
         go_ret
         exact ⟨_,(by first | rfl | (simp [e0_,e1_] <;> rfl) | (simp [*,e0_,e1_] <;> rfl)),(by first | exact S.r | exact Kd.R_nil _ _ _ _ _),S.below⟩
       · skip
         obtain rfl:=Option.some.inj H
         go_wp2
         go_wp2
         go_ret
         exact ⟨_,(by first | rfl | (simp [e0_,e1_] <;> rfl) | (simp [*,e0_,e1_] <;> rfl)),(by first | exact S.r | exact Kd.R_nil _ _ _ _ _),S.below⟩

/-! ### spec_ggGroups: function 175 -/
mutual
def spec_ggGroups.l0:Nat→List Int→Int→Int→Int→Int→List (S42)→Option (List Int)
  | 0,_,_,_,_,_,_=>none
  | k + 1,x3,x17,x18,x143000,x143001,x143002=>if x18 < x17 then (if 0 ≤ x18 then (if x18 < (x3.length:Int) then (spec_ggGroups.l0 k (x3.set (x18:Int).toNat (-1)) x17 (wrap64 (x18 + 1)) x143000 x143001 x143002) else (none)) else (none)) else (spec_ggGroups.l1 k x3 0 x143002 (x143002.length:Int) 0 x143000 x143001 x143002)
def spec_ggGroups.l1:Nat→List Int→Int→List (S42)→Int→Int→Int→Int→List (S42)→Option (List Int)
  | 0,_,_,_,_,_,_,_,_=>none
  | k + 1,x3,x5,x26,x27,x28,x143000,x143001,x143002=>if x28 < x27 then (if 0 ≤ x28 then (if x28 < (x26.length:Int) then ((spec_ggGear.f ((rd_T42 x26 x28).f0) ((rd_T42 x26 x28).f1)).bind fun t149=>(if t149 = true then (if x28 < (x3.length:Int) then (spec_ggGroups.j2 k x3 x5 x28 x26 x27 x28 (decide ((rd x3 x28) ≥ 0)) x143000 x143001 x143002) else (none)) else (spec_ggGroups.j2 k x3 x5 x28 x26 x27 x28 true x143000 x143001 x143002))) else (none)) else (none)) else (some x3)
def spec_ggGroups.j2:Nat→List Int→Int→Int→List (S42)→Int→Int→Bool→Int→Int→List (S42)→Option (List Int)
  | 0,_,_,_,_,_,_,_,_,_,_=>none
  | k + 1,x3,x5,x6,x26,x27,x28,x42,x143000,x143001,x143002=>if x42 = true then (spec_ggGroups.l1 k x3 x5 x26 x27 (wrap64 (x28 + 1)) x143000 x143001 x143002) else (if 0 ≤ x6 then (if x6 < (x3.length:Int) then (spec_ggGroups.l2 k (x3.set (x6:Int).toNat x5) x5 (([x6]:List Int)) 0 x26 x27 x28 x143000 x143001 x143002) else (none)) else (none))
def spec_ggGroups.l2:Nat→List Int→Int→List Int→Int→List (S42)→Int→Int→Int→Int→List (S42)→Option (List Int)
  | 0,_,_,_,_,_,_,_,_,_,_=>none
  | k + 1,x3,x5,x8,x9,x26,x27,x28,x143000,x143001,x143002=>if x9 < (x8.length:Int) then (if 0 ≤ x9 then ((spec_ggNear.f k x143000 x143001 x143002 (rd x8 x9)).bind fun t156=>(spec_ggGroups.l3 k x3 x5 x8 x9 x26 x27 x28 t156 (t156.length:Int) 0 x143000 x143001 x143002)) else (none)) else (spec_ggGroups.l1 k x3 (wrap64 (x5 + 1)) x26 x27 (wrap64 (x28 + 1)) x143000 x143001 x143002)
def spec_ggGroups.l3:Nat→List Int→Int→List Int→Int→List (S42)→Int→Int→List Int→Int→Int→Int→Int→List (S42)→Option (List Int)
  | 0,_,_,_,_,_,_,_,_,_,_,_,_,_=>none
  | k + 1,x3,x5,x8,x9,x26,x27,x28,x60,x61,x62,x143000,x143001,x143002=>if x62 < x61 then (if 0 ≤ x62 then (if x62 < (x60.length:Int) then (if 0 ≤ (rd x60 x62) then (if (rd x60 x62) < (x143002.length:Int) then ((spec_ggGear.f ((rd_T42 x143002 (rd x60 x62)).f0) ((rd_T42 x143002 (rd x60 x62)).f1)).bind fun t161=>(if t161 = true then (if (rd x60 x62) < (x3.length:Int) then (if (rd x3 (rd x60 x62)) < 0 then (if x8.length < 17592186044416 then (spec_ggGroups.l3 k (x3.set ((rd x60 x62):Int).toNat x5) x5 (x8 ++ [rd x60 x62]) x9 x26 x27 x28 x60 x61 (wrap64 (x62 + 1)) x143000 x143001 x143002) else (none)) else (spec_ggGroups.l3 k x3 x5 x8 x9 x26 x27 x28 x60 x61 (wrap64 (x62 + 1)) x143000 x143001 x143002)) else (none)) else (spec_ggGroups.l3 k x3 x5 x8 x9 x26 x27 x28 x60 x61 (wrap64 (x62 + 1)) x143000 x143001 x143002))) else (none)) else (none)) else (none)) else (none)) else (spec_ggGroups.l2 k x3 x5 x8 (wrap64 (x9 + 1)) x26 x27 x28 x143000 x143001 x143002)
end
def spec_ggGroups.f (k:Nat) (a0_0:Int) (a0_1:Int) (l0_2:List (S42)):Option (List Int):=if 0 ≤ (l0_2.length:Int) then (if ((l0_2.length:Int):Int).toNat ≤ 35184372088832 then ((some (List.replicate ((l0_2.length:Int):Int).toNat 0:List Int)).bind fun y143=>(spec_ggGroups.l0 k y143 (y143.length:Int) 0 a0_0 a0_1 l0_2)) else (none)) else (none)
theorem spec_ggGroups.calls (k:Nat) (a0_0:Int) (a0_1:Int) (A0_2:Option Addr) (c0_2:Nat) (l0_2:List (S42)) (r:List Int) (w:World) (hr0_2:Kd.C k42 w A0_2 l0_2.length l0_2) (hc0_2:l0_2.length ≤ c0_2) (h:spec_ggGroups.f k a0_0 a0_1 l0_2 = some r) :
    Calls Try.prog 175 #[.agg #[.int .i64 a0_0,.int .i64 a0_1,.slice A0_2 l0_2.length c0_2]] w fun e w'=>∃ v0_:Value,e = .returned (v0_)∧Kd.R (Kd.int .i64) 3 w' w.heap.size (fun _=>True) v0_ r∧Below w.heap.size w w':=by
 have S:=St.init (w:=w) (dc k42_heap at42 hr0_2 hc0_2 dn)
 clear hr0_2 hc0_2
 have F:=S.fc
 have H:=h;clear h;unfold spec_ggGroups.f at H
 replace H:=np_ H;obtain ⟨c2,H⟩:=H;(try simp only [F] at c2)
 replace H:=np_ H;obtain ⟨c3,H⟩:=H;(try simp only [F] at c3)
 (first | (with_reducible replace H:=ob_ H;obtain ⟨y143,hy143,H⟩:=H;(try dsimp only at H)) | (obtain ⟨y143,hy143⟩:∃ y_:List Int,y_ = (List.replicate ((l0_2.length:Int):Int).toNat 0):=⟨_,rfl⟩;(try rw [← hy143] at H);(try simp only [Option.bind_some] at H)));have Ny143:=Aside0.mk hy143;clear hy143
 go_enter Try.func175,Try.ntmps175
 go_wp2_with (first | ((with_reducible refine gd 1 rfl (L ?_));refine bo 1 (.agg #[_,_,_]) S ?_;clear S F;intro gb142 W S;have F:=S.fc) | ((with_reducible refine gd 15 rfl (L ?_));refine mka 15 (atI .i64) S Try.underlying25 info3 ?_;clear S F;intro Ay143 cy143 W S;(try simp only [Int.reduceToNat] at S ⊢);(try rw [← Ny143.out] at S ⊢);have F:=S.fc))
 go_loopg [18] k (fun kq v18 w'=>∃ (x3_1:List Int) (x18_1:Int),v18 = .int .i64 x18_1∧spec_ggGroups.l0 kq x3_1 (y143.length:Int) x18_1 a0_0 a0_1 l0_2 = some r∧kq ≤ k∧St w w (fun _=>False) [bor at42 A0_2 c0_2 l0_2] w'  [row (atI .i64) 3 Ay143 y143.length cy143 x3_1,box gb142 30 [.int .i64 a0_0,.int .i64 a0_1,.slice A0_2 l0_2.length c0_2]])
 case atStart=>exact ⟨y143,0,(by first | rfl | (simp;done) | (simp [*];done) | (rw [w6_ (by omega) (by omega)])),(by first | exact H | (simp only [F];exact H)),Nat.le_refl _,S⟩
 case round =>
  clear H S F
  obtain ⟨x3_1,x18_1,rfl,HA,HK1,S⟩:=hrel
  have F:=S.fc
  cases gk with
  | zero=>exact absurd HA (by simp [spec_ggGroups.l0])
  | succ k1 =>
   have H:=HA;clear HA;simp only [spec_ggGroups.l0,F] at H
   replace H:=sp_ H;rcases H with ⟨c9,H⟩ | ⟨c9,H⟩
   · skip
     replace H:=np_ H;obtain ⟨c10,H⟩:=H;(try simp only [F] at c10)
     replace H:=np_ H;obtain ⟨c11,H⟩:=H;(try simp only [F] at c11)
     (first | (with_reducible replace H:=ob_ H;obtain ⟨y146,hy146,H⟩:=H;(try dsimp only at H)) | (obtain ⟨y146,hy146⟩:∃ y_:List Int,y_ = (x3_1.set (x18_1:Int).toNat (-1)):=⟨_,rfl⟩;(try rw [← hy146] at H);(try simp only [Option.bind_some] at H)));have Ny146:=Aside0.mk hy146;clear hy146
     go_wp2_with ((with_reducible refine gs (t:=3) rfl (L ?_));refine ro (.int _ _) S sz3 ?_ (ho:=rfl) (hx:=rfl) (hy:=rfl);clear S F;intro W S;(try simp only [gd42] at S);(try rw [← Ny143.out] at S);(try rw [← Ny146.out] at S);have F:=S.fc)
     go_roundg k1
     case measure=>omega
     case rel=>exact ⟨y146,(wrap64 (x18_1 + 1)),(by first | rfl | (simp;done) | (simp [*];done) | (rw [w6_ (by omega) (by omega)])),(by first | exact H | (simp only [F];exact H)),(by first | omega | exact Nat.le_refl _),S⟩
   · skip
     go_wp2
     go_loopg [5,28] k1 (fun kq v5 v28 w'=>∃ (x3_2:List Int) (x5_2:Int) (x28_2:Int),v5 = .int .i64 x5_2∧v28 = .int .i64 x28_2∧spec_ggGroups.l1 kq x3_2 x5_2 l0_2 (l0_2.length:Int) x28_2 a0_0 a0_1 l0_2 = some r∧kq ≤ k1∧St w w (fun _=>False) [bor at42 A0_2 c0_2 l0_2] w'  [row (atI .i64) 3 Ay143 y143.length cy143 x3_2,box gb142 30 [.int .i64 a0_0,.int .i64 a0_1,.slice A0_2 l0_2.length c0_2]])
     case atStart=>exact ⟨x3_1,0,0,(by first | rfl | (simp;done) | (simp [*];done) | (rw [w6_ (by omega) (by omega)])),(by first | rfl | (simp;done) | (simp [*];done) | (rw [w6_ (by omega) (by omega)])),(by first | exact H | (simp only [F];exact H)),Nat.le_refl _,S⟩
     case round =>
      clear H S F
      obtain ⟨x3_2,x5_2,x28_2,rfl,rfl,HA,HK2,S⟩:=hrel
      have F:=S.fc
      cases gk with
      | zero=>exact absurd HA (by simp [spec_ggGroups.l1])
      | succ k2 =>
       have H:=HA;clear HA;simp only [spec_ggGroups.l1,F] at H
       replace H:=sp_ H;rcases H with ⟨c16,H⟩ | ⟨c16,H⟩
       · skip
         replace H:=np_ H;obtain ⟨c17,H⟩:=H;(try simp only [F] at c17)
         replace H:=np_ H;obtain ⟨c18,H⟩:=H;(try simp only [F] at c18)
         go_upto_region 11 with (first | ((with_reducible refine gd 7 rfl (L ?_));refine al 7 S zi42 ?_;clear S F;intro gb148 W S;have F:=S.fc) | ((with_reducible refine gs (t:=42) rfl (L ?_));refine sb (.agg #[_,_]) S sz42 ?_;clear S F;intro W S;(try simp only [gd42] at S);(try rw [← Ny143.out] at S);have F:=S.fc))
         (try simp only [Act.put,List.setIfInBounds_toArray,List.set_cons_zero,List.set_cons_succ])
         go_cut [42] (fun v42 wc=>∃ (kq:Nat) (x42_18:Bool),v42 = .bool x42_18∧spec_ggGroups.j2 kq x3_2 x5_2 x28_2 l0_2 (l0_2.length:Int) x28_2 x42_18 a0_0 a0_1 l0_2 = some r∧kq ≤ k2∧St w w (fun _=>False) [bor at42 A0_2 c0_2 l0_2] wc  [box gb148 42 [.int .i64 ((rd_T42 l0_2 x28_2).f0),.int .i64 ((rd_T42 l0_2 x28_2).f1)],row (atI .i64) 3 Ay143 y143.length cy143 x3_2,box gb142 30 [.int .i64 a0_0,.int .i64 a0_1,.slice A0_2 l0_2.length c0_2]])
         case first =>
          replace H:=Option.bind_eq_some_iff.mp H;obtain ⟨t149,A23,H⟩:=H;(try dsimp only at H)
          replace H:=sp_ H;rcases H with ⟨c24,H⟩ | ⟨c24,H⟩
          · skip
            subst c24
            replace H:=np_ H;obtain ⟨c25,H⟩:=H;(try simp only [F] at c25)
            go_wp2_with ((with_reducible refine gate_callee (f:=209) rfl (L ?_));refine cl (some 34) Try.func209 (spec_ggGear.calls _ _ _ _ A23) (hargs:=by (simp only [ma_,mb_,mc_,F] <;> rfl)) (h:=?_);rintro e W ⟨rfl,hb⟩;refine ⟨_,rfl,?_⟩;replace S:=S.go hb;clear F hb;have F:=S.fc)
            go_meet
            case rel=>exact ⟨_,(decide ((rd x3_2 x28_2) ≥ 0)),(by first | rfl | (simp;done) | (simp [*];done) | (rw [w6_ (by omega) (by omega)])),(by first | exact H | (simp only [F];exact H)),(by first | omega | exact Nat.le_refl _),S⟩
          · skip
            replace c24:=cbf c24;subst c24
            go_wp2_with ((with_reducible refine gate_callee (f:=209) rfl (L ?_));refine cl (some 34) Try.func209 (spec_ggGear.calls _ _ _ _ A23) (hargs:=by (simp only [ma_,mb_,mc_,F] <;> rfl)) (h:=?_);rintro e W ⟨rfl,hb⟩;refine ⟨_,rfl,?_⟩;replace S:=S.go hb;clear F hb;have F:=S.fc)
            go_meet
            case rel=>exact ⟨_,true,(by first | rfl | (simp;done) | (simp [*];done) | (rw [w6_ (by omega) (by omega)])),(by first | exact H | (simp only [F];exact H)),(by first | omega | exact Nat.le_refl _),S⟩
         case rest =>
          clear H S F
          obtain ⟨kq,x42_18,rfl,HA,HJ18,S⟩:=hcut
          have F:=S.fc
          cases kq with
          | zero=>exact absurd HA (by simp [spec_ggGroups.j2])
          | succ kj18 =>
           have H:=HA;clear HA;simp only [spec_ggGroups.j2,F] at H
           replace H:=sp_ H;rcases H with ⟨c32,H⟩ | ⟨c32,H⟩
           · skip
             subst c32
             go_wp2
             go_roundg kj18
             case measure=>omega
             case rel=>exact ⟨x3_2,x5_2,(wrap64 (x28_2 + 1)),(by first | rfl | (simp;done) | (simp [*];done) | (rw [w6_ (by omega) (by omega)])),(by first | rfl | (simp;done) | (simp [*];done) | (rw [w6_ (by omega) (by omega)])),(by first | exact H | (simp only [F];exact H)),(by first | omega | exact Nat.le_refl _),S.tl⟩
           · skip
             replace c32:=cbf c32;subst c32
             replace H:=np_ H;obtain ⟨c33,H⟩:=H;(try simp only [F] at c33)
             replace H:=np_ H;obtain ⟨c34,H⟩:=H;(try simp only [F] at c34)
             (first | (with_reducible replace H:=ob_ H;obtain ⟨y151,hy151,H⟩:=H;(try dsimp only at H)) | (obtain ⟨y151,hy151⟩:∃ y_:List Int,y_ = (x3_2.set (x28_2:Int).toNat x5_2):=⟨_,rfl⟩;(try rw [← hy151] at H);(try simp only [Option.bind_some] at H)));have Ny151:=Aside0.mk hy151;clear hy151
             (first | (with_reducible replace H:=ob_ H;obtain ⟨y152,hy152,H⟩:=H;(try dsimp only at H)) | (obtain ⟨y152,hy152⟩:∃ y_:List Int,y_ = (([x28_2]:List Int)):=⟨_,rfl⟩;(try rw [← hy152] at H);(try simp only [Option.bind_some] at H)));have Ny152:=Aside0.mk hy152;clear hy152
             go_wp2_with (first | ((with_reducible refine gd 48 rfl (L ?_));refine lia 48 (atI .i64) 3 S ([x28_2]:List Int) (fun _ _=>(Reps.one (show Kd.M (Kd.int .i64) _ _ _ x28_2 [.int .i64 x28_2] from rfl) (Reps.none _ _))) (by first | (go_simp;done) | (go_simp;rfl)) ?_;clear S F;intro Ay152 cy152 W S;(try rw [← Ny143.out] at S ⊢);(try rw [← Ny151.out] at S ⊢);(try rw [← Ny152.out] at S ⊢);have F:=S.fc) | ((with_reducible refine gs (t:=3) rfl (L ?_));refine ro (.int _ _) S sz3 ?_ (ho:=rfl) (hx:=rfl) (hy:=rfl);clear S F;intro W S;(try simp only [gd42] at S);(try rw [← Ny143.out] at S);(try rw [← Ny151.out] at S);(try rw [← Ny152.out] at S);have F:=S.fc))
             go_loopg [8,9] kj18 (fun kq v8 v9 w'=>∃ (x3_4:List Int) (x8_4:List Int) (x9_4:Int) (Ax8_4:Option Addr) (cx8_4:Nat),v9 = .int .i64 x9_4∧v8 = .slice Ax8_4 x8_4.length cx8_4∧spec_ggGroups.l2 kq x3_4 x5_2 x8_4 x9_4 l0_2 (l0_2.length:Int) x28_2 a0_0 a0_1 l0_2 = some r∧kq ≤ kj18∧St w w (fun _=>False) [bor at42 A0_2 c0_2 l0_2] w'  [row (atI .i64) 3 Ax8_4 x8_4.length cx8_4 x8_4,box gb148 42 [.int .i64 ((rd_T42 l0_2 x28_2).f0),.int .i64 ((rd_T42 l0_2 x28_2).f1)],row (atI .i64) 3 Ay143 y143.length cy143 x3_4,box gb142 30 [.int .i64 a0_0,.int .i64 a0_1,.slice A0_2 l0_2.length c0_2]])
             case atStart=>exact ⟨y151,y152,0,_,_,(by first | rfl | (simp;done) | (simp [*];done) | (rw [w6_ (by omega) (by omega)])),rfl,(by first | exact H | (simp only [F];exact H)),Nat.le_refl _,S⟩
             case round =>
              clear H S F
              obtain ⟨x3_4,x8_4,x9_4,Ax8_4,cx8_4,rfl,rfl,HA,HK4,S⟩:=hrel
              have F:=S.fc
              cases gk with
              | zero=>exact absurd HA (by simp [spec_ggGroups.l2])
              | succ k4 =>
               have H:=HA;clear HA;simp only [spec_ggGroups.l2,F] at H
               replace H:=sp_ H;rcases H with ⟨c40,H⟩ | ⟨c40,H⟩
               · skip
                 replace H:=np_ H;obtain ⟨c41,H⟩:=H;(try simp only [F] at c41)
                 replace H:=Option.bind_eq_some_iff.mp H;obtain ⟨t156,A42,H⟩:=H;(try dsimp only at H)
                 go_wp2
                 refine rq S [(0,1),(0,2),(0,3),(0,7),(1,0),(1,4),(2,5),(0,6)] [] (h:=?_);clear S F;intro W S;have S0:=S;have F:=S.fc
                 repeat (first | (refine q0 (h:=?_)) | (refine q1 S0 (h:=?_)))
                 refine lk2 (by rfl) (by exact (Eq.refl true)) ?_;refine cl (some 60) Try.func210 (spec_ggNear.calls _ _ _ _ _ _ _ _ _ S.c S.n A42) (hargs:=by (simp only [ma_,mb_,mc_,F] <;> rfl)) (h:=?_);rintro e W ⟨v157,rfl,ho0,hb⟩;refine ⟨_,rfl,?_⟩;replace S:=S.got (atI .i64) hb ho0;obtain ⟨At156,ct156,rfl,S⟩:=S;clear F hb ho0;(try rw [← Ny143.out] at S);(try rw [← Ny151.out] at S);(try rw [← Ny152.out] at S);have F:=S.fc
                 clear S0;have S0:=S.tl;refine ⟨S0,?_⟩
                 repeat ((refine q0 (h:=?_)))
                 refine oz ?_
                 try clear S0
                 go_wp2
                 go_loopg [8,62] k4 (fun kq v8 v62 w'=>∃ (x3_5:List Int) (x8_5:List Int) (x62_5:Int) (Ax8_5:Option Addr) (cx8_5:Nat),v62 = .int .i64 x62_5∧v8 = .slice Ax8_5 x8_5.length cx8_5∧spec_ggGroups.l3 kq x3_5 x5_2 x8_5 x9_4 l0_2 (l0_2.length:Int) x28_2 t156 (t156.length:Int) x62_5 a0_0 a0_1 l0_2 = some r∧kq ≤ k4∧St w w (fun _=>False) [bor at42 A0_2 c0_2 l0_2] w'  [row (atI .i64) 3 At156 t156.length ct156 t156,row (atI .i64) 3 Ax8_5 x8_5.length cx8_5 x8_5,box gb148 42 [.int .i64 ((rd_T42 l0_2 x28_2).f0),.int .i64 ((rd_T42 l0_2 x28_2).f1)],row (atI .i64) 3 Ay143 y143.length cy143 x3_5,box gb142 30 [.int .i64 a0_0,.int .i64 a0_1,.slice A0_2 l0_2.length c0_2]])
                 case atStart=>exact ⟨x3_4,x8_4,0,_,_,(by first | rfl | (simp;done) | (simp [*];done) | (rw [w6_ (by omega) (by omega)])),rfl,(by first | exact H | (simp only [F];exact H)),Nat.le_refl _,S⟩
                 case round =>
                  clear H S F
                  obtain ⟨x3_5,x8_5,x62_5,Ax8_5,cx8_5,rfl,rfl,HA,HK5,S⟩:=hrel
                  have F:=S.fc
                  cases gk with
                  | zero=>exact absurd HA (by simp [spec_ggGroups.l3])
                  | succ k5 =>
                   have H:=HA;clear HA;simp only [spec_ggGroups.l3,F] at H
                   replace H:=sp_ H;rcases H with ⟨c47,H⟩ | ⟨c47,H⟩
                   · skip
                     replace H:=np_ H;obtain ⟨c48,H⟩:=H;(try simp only [F] at c48)
                     replace H:=np_ H;obtain ⟨c49,H⟩:=H;(try simp only [F] at c49)
                     replace H:=np_ H;obtain ⟨c50,H⟩:=H;(try simp only [F] at c50)
                     replace H:=np_ H;obtain ⟨c51,H⟩:=H;(try simp only [F] at c51)
                     replace H:=Option.bind_eq_some_iff.mp H;obtain ⟨t161,A52,H⟩:=H;(try dsimp only at H)
                     replace H:=sp_ H;rcases H with ⟨c53,H⟩ | ⟨c53,H⟩
                     · skip
                       subst c53
                       replace H:=np_ H;obtain ⟨c54,H⟩:=H;(try simp only [F] at c54)
                       replace H:=sp_ H;rcases H with ⟨c55,H⟩ | ⟨c55,H⟩
                       · skip
                         (first | (with_reducible replace H:=ob_ H;obtain ⟨y163,hy163,H⟩:=H;(try dsimp only at H)) | (obtain ⟨y163,hy163⟩:∃ y_:List Int,y_ = (x3_5.set ((rd t156 x62_5):Int).toNat x5_2):=⟨_,rfl⟩;(try rw [← hy163] at H);(try simp only [Option.bind_some] at H)));have Ny163:=Aside0.mk hy163;clear hy163
                         replace H:=np_ H;obtain ⟨c57,H⟩:=H;(try simp only [F] at c57)
                         (first | (with_reducible replace H:=ob_ H;obtain ⟨y164,hy164,H⟩:=H;(try dsimp only at H)) | (obtain ⟨y164,hy164⟩:∃ y_:List Int,y_ = (x8_5 ++ [rd t156 x62_5]):=⟨_,rfl⟩;(try rw [← hy164] at H);(try simp only [Option.bind_some] at H)));have Ny164:=Aside0.mk hy164;clear hy164
                         go_wp2_with (first | ((with_reducible refine gate_callee (f:=209) rfl (L ?_));refine cl (some 71) Try.func209 (spec_ggGear.calls _ _ _ _ A52) (hargs:=by (simp only [ma_,mb_,mc_,F] <;> rfl)) (h:=?_);rintro e W ⟨rfl,hb⟩;refine ⟨_,rfl,?_⟩;replace S:=S.go hb;clear F hb;have F:=S.fc) | ((with_reducible refine gd 86 rfl (L ?_));refine apa (A:=Ax8_5) 86 S Try.underlying25 info3 ?_ (ho:=rfl) (hs:=rfl) (hx:=rfl);clear S F;intro Ay164 cy164 W S;(try rw [← Ny143.out] at S ⊢);(try rw [← Ny151.out] at S ⊢);(try rw [← Ny152.out] at S ⊢);(try rw [← Ny163.out] at S ⊢);(try rw [← Ny164.out] at S ⊢);have F:=S.fc) | ((with_reducible refine gs (t:=3) rfl (L ?_));refine ro (.int _ _) S sz3 ?_ (ho:=rfl) (hx:=rfl) (hy:=rfl);clear S F;intro W S;(try simp only [gd42] at S);(try rw [← Ny143.out] at S);(try rw [← Ny151.out] at S);(try rw [← Ny152.out] at S);(try rw [← Ny163.out] at S);(try rw [← Ny164.out] at S);have F:=S.fc))
                         go_roundg k5
                         case measure=>omega
                         case rel=>first | (exact ⟨y163,y164,(wrap64 (x62_5 + 1)),_,_,(by first | rfl | (simp;done) | (simp [*];done) | (rw [w6_ (by omega) (by omega)])),rfl,(by first | exact H | (simp only [F];exact H)),(by first | omega | exact Nat.le_refl _),S⟩) | (exact ⟨y163,y164,(wrap64 (x62_5 + 1)),_,_,(by first | rfl | (simp;done) | (simp [*];done) | (rw [w6_ (by omega) (by omega)])),rfl,(by first | exact H | (simp only [F];exact H)),(by first | omega | exact Nat.le_refl _),S.tl⟩)
                       · skip
                         go_wp2_with ((with_reducible refine gate_callee (f:=209) rfl (L ?_));refine cl (some 71) Try.func209 (spec_ggGear.calls _ _ _ _ A52) (hargs:=by (simp only [ma_,mb_,mc_,F] <;> rfl)) (h:=?_);rintro e W ⟨rfl,hb⟩;refine ⟨_,rfl,?_⟩;replace S:=S.go hb;clear F hb;have F:=S.fc)
                         go_roundg k5
                         case measure=>omega
                         case rel=>first | (exact ⟨x3_5,x8_5,(wrap64 (x62_5 + 1)),_,_,(by first | rfl | (simp;done) | (simp [*];done) | (rw [w6_ (by omega) (by omega)])),rfl,(by first | exact H | (simp only [F];exact H)),(by first | omega | exact Nat.le_refl _),S⟩) | (exact ⟨x3_5,x8_5,(wrap64 (x62_5 + 1)),_,_,(by first | rfl | (simp;done) | (simp [*];done) | (rw [w6_ (by omega) (by omega)])),rfl,(by first | exact H | (simp only [F];exact H)),(by first | omega | exact Nat.le_refl _),S.tl⟩)
                     · skip
                       replace c53:=cbf c53;subst c53
                       go_wp2_with ((with_reducible refine gate_callee (f:=209) rfl (L ?_));refine cl (some 71) Try.func209 (spec_ggGear.calls _ _ _ _ A52) (hargs:=by (simp only [ma_,mb_,mc_,F] <;> rfl)) (h:=?_);rintro e W ⟨rfl,hb⟩;refine ⟨_,rfl,?_⟩;replace S:=S.go hb;clear F hb;have F:=S.fc)
                       go_roundg k5
                       case measure=>omega
                       case rel=>first | (exact ⟨x3_5,x8_5,(wrap64 (x62_5 + 1)),_,_,(by first | rfl | (simp;done) | (simp [*];done) | (rw [w6_ (by omega) (by omega)])),rfl,(by first | exact H | (simp only [F];exact H)),(by first | omega | exact Nat.le_refl _),S⟩) | (exact ⟨x3_5,x8_5,(wrap64 (x62_5 + 1)),_,_,(by first | rfl | (simp;done) | (simp [*];done) | (rw [w6_ (by omega) (by omega)])),rfl,(by first | exact H | (simp only [F];exact H)),(by first | omega | exact Nat.le_refl _),S.tl⟩)
                   · skip
                     go_wp2
                     go_roundg k5
                     case measure=>omega
                     case rel=>first | (exact ⟨x3_5,x8_5,(wrap64 (x9_4 + 1)),_,_,(by first | rfl | (simp;done) | (simp [*];done) | (rw [w6_ (by omega) (by omega)])),rfl,(by first | exact H | (simp only [F];exact H)),(by first | omega | exact Nat.le_refl _),S⟩) | (exact ⟨x3_5,x8_5,(wrap64 (x9_4 + 1)),_,_,(by first | rfl | (simp;done) | (simp [*];done) | (rw [w6_ (by omega) (by omega)])),rfl,(by first | exact H | (simp only [F];exact H)),(by first | omega | exact Nat.le_refl _),S.tl⟩)
               · skip
                 go_wp2
                 go_roundg k4
                 case measure=>omega
                 case rel=>exact ⟨x3_4,(wrap64 (x5_2 + 1)),(wrap64 (x28_2 + 1)),(by first | rfl | (simp;done) | (simp [*];done) | (rw [w6_ (by omega) (by omega)])),(by first | rfl | (simp;done) | (simp [*];done) | (rw [w6_ (by omega) (by omega)])),(by first | exact H | (simp only [F];exact H)),(by first | omega | exact Nat.le_refl _),S.tl.tl⟩
       · skip
         obtain rfl:=Option.some.inj H
         go_wp2
         go_ret
         exact ⟨_,(by first | rfl | (simp [e0_,e1_] <;> rfl) | (simp [*,e0_,e1_] <;> rfl)),(by first | exact S.r | exact Kd.R_nil _ _ _ _ _),S.below⟩

/-! ### spec_l1In: function 116 -/
def spec_l1In.f (a0:Int) (a1:Int) (a2:Int):Option (Bool):=if a0 ≥ a1 then (some (decide (a0 ≤ a2))) else (some false)
theorem spec_l1In.calls (a0:Int) (a1:Int) (a2:Int) (r:Bool) (w:World) (h:spec_l1In.f a0 a1 a2 = some r) :
  Calls Try.prog 116 #[.int .i64 a0,.int .i64 a1,.int .i64 a2] w fun e w'=>e = .returned (.bool r)∧Drawn0 w w':=by
 have H:(if a0 ≥ a1 then (some (decide (a0 ≤ a2))) else (some false)) = some r:=h;clear h;by_cases c4:a0 ≥ a1
 ·rw [if_pos c4] at H;have c4b0:decide (a1 ≤ a0) = true:=decide_eq_true c4;clear c4;obtain rfl:=Option.some.inj H;go_enter Try.func116,Try.ntmps116;go_wp2;go_ret;exact ⟨by first | rfl | (simp;done) | (simp [*];done),by repeat (first | exact Drawn0.refl _ | apply Drawn0.step)⟩
 ·rw [if_neg c4] at H;have c4b0:decide (a1 ≤ a0) = false:=decide_eq_false c4;clear c4;obtain rfl:=Option.some.inj H;go_enter Try.func116,Try.ntmps116;go_wp2;go_ret;exact ⟨by first | rfl | (simp;done) | (simp [*];done),by repeat (first | exact Drawn0.refl _ | apply Drawn0.step)⟩

/-! ### spec_boOwn: function 170 -/
def spec_boOwn.f (a0_0:Int) (a0_1:Int) (l0_2:List (S42)):Option (Int × Int × (List (S42))):=(some (([]:List (S42)):List (S42))).bind fun y169=>(if y169.length + l0_2.length < 8796093022208 then (some (a0_0,a0_1,(y169 ++ l0_2))) else (none))
theorem spec_boOwn.calls (a0_0:Int) (a0_1:Int) (A0_2:Option Addr) (c0_2:Nat) (l0_2:List (S42)) (r1:Int) (r2:Int) (r3:List (S42)) (w:World) (hr0_2:Kd.C k42 w A0_2 l0_2.length l0_2) (hc0_2:l0_2.length ≤ c0_2) (h:spec_boOwn.f a0_0 a0_1 l0_2 = some (r1,r2,r3)) :
    Calls Try.prog 170 #[.agg #[.int .i64 a0_0,.int .i64 a0_1,.slice A0_2 l0_2.length c0_2]] w fun e w'=>∃ v2_:Value,e = .returned (.agg #[.int .i64 r1,.int .i64 r2,v2_])∧Kd.R k42 42 w' w.heap.size (fun _=>True) v2_ r3∧Below w.heap.size w w':=by
 have S:=St.init (w:=w) (dc k42_heap at42 hr0_2 hc0_2 dn)
 clear hr0_2 hc0_2
 have F:=S.fc
 have H:=h;clear h;unfold spec_boOwn.f at H
 (first | (with_reducible replace H:=ob_ H;obtain ⟨y169,hy169,H⟩:=H;(try dsimp only at H)) | (obtain ⟨y169,hy169⟩:∃ y_:List (S42),y_ = (([]:List (S42))):=⟨_,rfl⟩;(try rw [← hy169] at H);(try simp only [Option.bind_some] at H)));have Ny169:=Aside0.mk hy169;clear hy169
 replace H:=np_ H;obtain ⟨c2,H⟩:=H
 (first | (with_reducible replace H:=ob_ H;obtain ⟨y172,hy172,H⟩:=H;(try dsimp only at H)) | (obtain ⟨y172,hy172⟩:∃ y_:List (S42),y_ = (y169 ++ l0_2):=⟨_,rfl⟩;(try rw [← hy172] at H);(try simp only [Option.bind_some] at H)));have Ny172:=Aside0.mk hy172;clear hy172
 simp only [Option.some.injEq,Prod.mk.injEq] at H
 obtain ⟨rfl,rfl,rfl⟩:=H
 go_enter Try.func170,Try.ntmps170
 go_wp2_with (first | ((with_reducible refine gd 1 rfl (L ?_));refine bo 1 (.agg #[_,_,_]) S ?_;clear S F;intro gb167 W S;have F:=S.fc) | ((with_reducible refine gd 2 rfl (L ?_));refine al 2 S zi30 ?_;clear S F;intro gb168 W S;have F:=S.fc))
 refine rgP S (fun _ S=>S.tl) [(0,0),(0,2),(0,5),(1,1),(1,3),(1,6),(2,4),(2,7),(0,8),(2,9)] [] (by kernel_rfl) (by kernel_rfl) (fun _ d _ _ _ h=>by cases d <;> exact h) ?_;clear S F;intro W S;have S0:=S.tl;have F:=S.fc
 repeat (first | (refine q0 (h:=?_)) | (refine q1 S0 (h:=?_)))
 refine lk2 (by rfl) (by exact (Eq.refl true)) ?_;refine lia 7 at42 42 S ([]:List (S42)) (fun _ _=>(Reps.none _ _)) (by first | (go_simp;done) | (go_simp;rfl)) ?_;clear S F;intro Ay169 cy169 W S;(try rw [← Ny169.out] at S ⊢);(try rw [← Ny172.out] at S ⊢);have F:=S.fc
 clear S0;have S0:=S.tl.tl;refine ⟨S0,?_⟩
 refine lk2 (by rfl) (by exact (Eq.refl true)) ?_;refine apr (A:=Ay169) (ys:=l0_2) 10 S Try.underlying24 info42 S.c ?_ (ho:=rfl) (hs:=rfl) (hx:=rfl);clear S F;intro Ay172 cy172 W S;(try rw [← Ny172.out] at S ⊢);have F:=S.fc
 clear S0;have S0:=S.tl.tl;refine ⟨S0,?_⟩
 repeat ((refine q0 (h:=?_)))
 refine lk2 (by rfl) (by exact (Eq.refl true)) ?_;(first | refine sb (.agg #[_,_,_]) S sz30 ?_ | refine ro (.agg #[_,_,_]) S sz30 ?_ (ho:=rfl) (hx:=rfl) (hy:=rfl));clear S F;intro W S;(try rw [← Ny172.out] at S);have F:=S.fc
 clear S0;have S0:=S.tl.tl;refine ⟨S0,?_⟩
 refine oz ?_
 try clear S0
 go_wp2
 refine bodyPost_ret (results_cell_row rfl _ _ gb168 30 #[.int .i64 a0_0,.int .i64 a0_1,.slice Ay172 y172.length cy172] (0,0) _ rfl S.hb Try.underlying30 rfl (by kernel_rfl)) rfl ?_
 exact ⟨_,(by first | rfl | (simp [e0_,e1_] <;> rfl) | (simp [*,e0_,e1_] <;> rfl)),(by first | exact S.r | exact Kd.R_nil _ _ _ _ _),S.below⟩

/-! ### spec_boAt: function 211 -/
def spec_boAt.f (a0_0:Int) (a0_1:Int) (l0_2:List (S42)) (a1:Int) (a2:Int):Option (Int × Int):=if 0 ≤ (wrap64 ((wrap64 (a1 * a0_1)) + a2)) then (if (wrap64 ((wrap64 (a1 * a0_1)) + a2)) < (l0_2.length:Int) then (some ((rd_T42 l0_2 (wrap64 ((wrap64 (a1 * a0_1)) + a2))).f0,(rd_T42 l0_2 (wrap64 ((wrap64 (a1 * a0_1)) + a2))).f1)) else (none)) else (none)
theorem spec_boAt.calls (a0_0:Int) (a0_1:Int) (A0_2:Option Addr) (c0_2:Nat) (l0_2:List (S42)) (a1:Int) (a2:Int) (r1:Int) (r2:Int) (w:World) (hr0_2:Kd.C k42 w A0_2 l0_2.length l0_2) (hc0_2:l0_2.length ≤ c0_2) (h:spec_boAt.f a0_0 a0_1 l0_2 a1 a2 = some (r1,r2)) :
    Calls Try.prog 211 #[.agg #[.int .i64 a0_0,.int .i64 a0_1,.slice A0_2 l0_2.length c0_2],.int .i64 a1,.int .i64 a2] w fun e w'=>e = .returned (.agg #[.int .i64 r1,.int .i64 r2])∧Below w.heap.size w w':=by
 have S:=St.init (w:=w) (dc k42_heap at42 hr0_2 hc0_2 dn)
 clear hr0_2 hc0_2
 have F:=S.fc
 have H:=h;clear h;unfold spec_boAt.f at H
 obtain ⟨ji4,hji4⟩:∃ j_:Int,(wrap64 ((wrap64 (a1 * a0_1)) + a2)) = j_:=⟨_,rfl⟩;simp only [hji4] at H
 have hji4w:(IntKind.i64.wrap ((wrap64 (a1 * a0_1)) + a2)) = ji4:=(i64_w _).trans hji4
 replace H:=np_ H;obtain ⟨c5,H⟩:=H
 replace H:=np_ H;obtain ⟨c6,H⟩:=H
 simp only [Option.some.injEq,Prod.mk.injEq] at H
 obtain ⟨rfl,rfl⟩:=H
 go_enter Try.func211,Try.ntmps211
 go_wp2_with (first | ((with_reducible refine gd 3 rfl (L ?_));refine bo 3 (.agg #[_,_,_]) S ?_;clear S F;intro gb175 W S;have F:=S.fc) | ((with_reducible refine gd 6 rfl (L ?_));refine al 6 S zi42 ?_;clear S F;intro gb176 W S;have F:=S.fc) | ((with_reducible refine gs (t:=42) rfl (L ?_));refine sb (.agg #[_,_]) S sz42 ?_;(clear S F;intro W S;have F:=S.fc)))
 refine bodyPost_ret (results_cell_row rfl _ _ gb176 42 #[.int .i64 ((rd_T42 l0_2 (ji4)).f0),.int .i64 ((rd_T42 l0_2 (ji4)).f1)] (0,0) _ rfl S.hb Try.underlying42 rfl (by kernel_rfl)) rfl ?_
 exact ⟨(by first | rfl | (simp [e0_,e1_] <;> rfl) | (simp [*,e0_,e1_] <;> rfl)),S.below⟩

/-! ### spec_paGoes: function 212 -/
def spec_paGoes.j0:Nat→Int→Int→Bool→Int→Int→Option (Int)
 | 0,_,_,_,_,_=>none
 | k + 1,x1,x6,x11,x179000,x179001=>if x11 = true then (some (wrap64 ((wrap64 (2 * x179001)) - 1))) else (if x6 = 4 then (some (wrap64 (-x1))) else (some 0))
def spec_paGoes.f (k:Nat) (a0_0:Int) (a0_1:Int) (a1:Int):Option (Int):=if a0_0 = 1 then (some (-1)) else (if a0_0 = 2 then (some 1) else (if a0_0 = 3 then (spec_paGoes.j0 k a1 a0_0 (a0_0 == 3) a0_0 a0_1) else (spec_paGoes.j0 k a1 a0_0 (a0_0 == 6) a0_0 a0_1)))
theorem spec_paGoes.calls (k:Nat) (a0_0:Int) (a0_1:Int) (a1:Int) (r:Int) (w:World) (h:spec_paGoes.f k a0_0 a0_1 a1 = some r) :
  Calls Try.prog 212 #[.agg #[.int .i64 a0_0,.int .i64 a0_1],.int .i64 a1] w fun e w'=>e = .returned (.int .i64 r)∧Below w.heap.size w w':=by
 have HB:=Aside0.mk (Below.refl w.heap.size w);have H:(if a0_0 = 1 then (some (-1)) else (if a0_0 = 2 then (some 1) else (if a0_0 = 3 then (spec_paGoes.j0 k a1 a0_0 (a0_0 == 3) a0_0 a0_1) else (spec_paGoes.j0 k a1 a0_0 (a0_0 == 6) a0_0 a0_1)))) = some r:=h;clear h;by_cases c3:a0_0 = 1
 ·rw [if_pos c3] at H;have c3b0:(a0_0 == 1) = true:=beq_iff_eq.mpr c3;have c3b1:(a0_0 != 1) = false:=bne_eq_false_iff_eq.mpr c3;clear c3;obtain rfl:=Option.some.inj H;go_enter Try.func212,Try.ntmps212;go_wp2_with (first | ((with_reducible refine gate_dst (N:=2) rfl ?_);refine box_event ?hg (N:=2) ?hd (cs:=#[.int .i64 a0_0,.int .i64 a0_1]) (t:=42) ?hr ?_;(case hd=>rfl);(case hg=>rfl);(case hr=>first | (go_simp;done) | (go_simp;rfl));intro gb178 hg w4 hbox hb;refine ev4 (bs HB hb) (hbox) (gle hg HB) (gle hg HB) ?_;clear HB;intro HB BK178 GW178 GE178;clear hb hbox hg;obtain ⟨hcz5_0,hcz5_1,hfz5_0,hfz5_1⟩:=bt2 BK178))
  go_ret;exact ⟨by first | rfl | (simp [e0_,e1_] <;> rfl) | (simp [*,e0_,e1_] <;> rfl),bm HB⟩
 ·rw [if_neg c3] at H;have c3b0:(a0_0 == 1) = false:=beq_eq_false_iff_ne.mpr c3;have c3b1:(a0_0 != 1) = true:=bne_iff_ne.mpr c3;by_cases c6:a0_0 = 2
  ·rw [if_pos c6] at H;have c6b0:(a0_0 == 2) = true:=beq_iff_eq.mpr c6;have c6b1:(a0_0 != 2) = false:=bne_eq_false_iff_eq.mpr c6;clear c6;obtain rfl:=Option.some.inj H;go_enter Try.func212,Try.ntmps212;go_wp2_with (first | ((with_reducible refine gate_dst (N:=2) rfl ?_);refine box_event ?hg (N:=2) ?hd (cs:=#[.int .i64 a0_0,.int .i64 a0_1]) (t:=42) ?hr ?_;(case hd=>rfl);(case hg=>rfl);(case hr=>first | (go_simp;done) | (go_simp;rfl));intro gb178 hg w7 hbox hb;refine ev4 (bs HB hb) (hbox) (gle hg HB) (gle hg HB) ?_;clear HB;intro HB BK178 GW178 GE178;clear hb hbox hg;obtain ⟨hcz8_0,hcz8_1,hfz8_0,hfz8_1⟩:=bt2 BK178))
   go_ret;exact ⟨by first | rfl | (simp [e0_,e1_] <;> rfl) | (simp [*,e0_,e1_] <;> rfl),bm HB⟩
  ·rw [if_neg c6] at H;have c6b0:(a0_0 == 2) = false:=beq_eq_false_iff_ne.mpr c6;have c6b1:(a0_0 != 2) = true:=bne_iff_ne.mpr c6;have HC9:=Aside0.mk H;clear H;go_enter Try.func212,Try.ntmps212;go_upto_if 11 with (first | ((with_reducible refine gate_dst (N:=2) rfl ?_);refine box_event ?hg (N:=2) ?hd (cs:=#[.int .i64 a0_0,.int .i64 a0_1]) (t:=42) ?hr ?_;(case hd=>rfl);(case hg=>rfl);(case hr=>first | (go_simp;done) | (go_simp;rfl));intro gb178 hg w10 hbox hb;refine ev4 (bs HB hb) (hbox) (gle hg HB) (gle hg HB) ?_;clear HB;intro HB BK178 GW178 GE178;clear hb hbox hg;obtain ⟨hcz11_0,hcz11_1,hfz11_0,hfz11_1⟩:=bt2 BK178))
   (try simp only [Act.put,za_,zb_,zc_])
   go_cut [11] (fun v11 wc=>∃ (kq:Nat) (x11_8:Bool),v11 = .bool x11_8∧Aside0 (spec_paGoes.j0 kq a1 a0_0 x11_8 a0_0 a0_1 = some r)∧Aside0 (kq ≤ k)∧Aside0 (wc.heap[gb178]? = some (.cells #[.int .i64 a0_0,.int .i64 a0_1] 42 (0,0)))∧Aside0 (Below w.heap.size w wc))
   case first =>
    have H:=HC9.out;clear HC9;by_cases c12:a0_0 = 3
    ·rw [if_pos c12] at H;have c12b0:(a0_0 == 3) = true:=beq_iff_eq.mpr c12;have c12b1:(a0_0 != 3) = false:=bne_eq_false_iff_eq.mpr c12;clear c12;(first | rw [c12b0] | (simp only [i64_w,i32_w];rw [c12b0]) | skip)
     have H':=Aside0.mk H;clear H;go_wp2;go_meet
     case rel=>exact ⟨_,((a0_0 == 3)),(by first | rfl | (simp;done) | (simp [*];done)),H',⟨by first | omega | exact Nat.le_refl _⟩,⟨km_ BK178⟩,⟨bm HB⟩⟩
    ·rw [if_neg c12] at H;have c12b0:(a0_0 == 3) = false:=beq_eq_false_iff_ne.mpr c12;have c12b1:(a0_0 != 3) = true:=bne_iff_ne.mpr c12;(first | rw [c12b0] | (simp only [i64_w,i32_w];rw [c12b0]) | skip)
     have H':=Aside0.mk H;clear H;go_wp2;go_meet
     case rel=>exact ⟨_,((a0_0 == 6)),(by first | rfl | (simp;done) | (simp [*];done)),H',⟨by first | omega | exact Nat.le_refl _⟩,⟨km_ BK178⟩,⟨bm HB⟩⟩
   case rest =>
    clear HC9;(try clear c2);(try clear c3);(try clear c3b0);(try clear c3b1);(try clear c6);(try clear c6b0);(try clear c6b1);(try clear hcz11_0 hcz11_1 hfz11_0 hfz11_1);obtain ⟨kq,x11_8,rfl,HA,HJ8,BK178,HB⟩:=hcut;cases kq with
    | zero=>exact absurd HA.out (by simp [spec_paGoes.j0])
    | succ kj8 =>
     have H:=HA.out;clear HA;simp only [spec_paGoes.j0] at H;by_cases c13:x11_8 = true
     ·subst c13;have H1:(some (wrap64 ((wrap64 (2 * a0_1)) - 1))) = some r:=by rw [if_pos rfl] at H;exact H
      clear H;have H:=H1;clear H1;obtain rfl:=Option.some.inj H;obtain ⟨hcz14_0,hcz14_1,hfz14_0,hfz14_1⟩:=bt2 BK178;go_wp2;go_ret;exact ⟨by first | rfl | (simp [e0_,e1_] <;> rfl) | (simp [*,e0_,e1_] <;> rfl),bm HB⟩
     ·replace c13:=Bool.eq_false_iff.mpr c13;subst c13;have H1:(if a0_0 = 4 then (some (wrap64 (-a1))) else (some 0)) = some r:=by rw [if_neg (show ¬ (false = true) by decide)] at H;exact H
      clear H;have H:=H1;clear H1;by_cases c15:a0_0 = 4
      ·rw [if_pos c15] at H;have c15b0:(a0_0 == 4) = true:=beq_iff_eq.mpr c15;have c15b1:(a0_0 != 4) = false:=bne_eq_false_iff_eq.mpr c15;clear c15;obtain rfl:=Option.some.inj H;go_wp2;go_ret;exact ⟨by first | rfl | (simp [e0_,e1_] <;> rfl) | (simp [*,e0_,e1_] <;> rfl),bm HB⟩
      ·rw [if_neg c15] at H;have c15b0:(a0_0 == 4) = false:=beq_eq_false_iff_ne.mpr c15;have c15b1:(a0_0 != 4) = true:=bne_iff_ne.mpr c15;obtain rfl:=Option.some.inj H;go_wp2;go_ret;exact ⟨by first | rfl | (simp [e0_,e1_] <;> rfl) | (simp [*,e0_,e1_] <;> rfl),bm HB⟩

/-! ### spec_paTurn: function 218 -/
def spec_paTurn.f (a0_0:Int) (a0_1:Int):Option (Int × Int):=some (a0_0,wrap64 (1 - a0_1))
theorem spec_paTurn.calls (a0_0:Int) (a0_1:Int) (r1:Int) (r2:Int) (w:World) (h:spec_paTurn.f a0_0 a0_1 = some (r1,r2)) :
    Calls Try.prog 218 #[.agg #[.int .i64 a0_0,.int .i64 a0_1]] w fun e w'=>e = .returned (.agg #[.int .i64 r1,.int .i64 r2])∧Below w.heap.size w w':=by
 have S:=St.init (w:=w) dn
 have F:=S.fc
 have H:=h;clear h;unfold spec_paTurn.f at H
 simp only [Option.some.injEq,Prod.mk.injEq] at H
 obtain ⟨rfl,rfl⟩:=H
 go_enter Try.func218,Try.ntmps218
 go_wp2_with (first | ((with_reducible refine gd 1 rfl (L ?_));refine bo 1 (.agg #[_,_]) S ?_;clear S F;intro gb179 W S;have F:=S.fc) | ((with_reducible refine gd 2 rfl (L ?_));refine al 2 S zi42 ?_;clear S F;intro gb180 W S;have F:=S.fc) | ((with_reducible refine gs (t:=42) rfl (L ?_));refine sb (.agg #[_,_]) S sz42 ?_;(clear S F;intro W S;have F:=S.fc)))
 refine bodyPost_ret (results_cell_row rfl _ _ gb180 42 #[.int .i64 a0_0,.int .i64 (wrap64 (1 - a0_1))] (0,0) _ rfl S.hb Try.underlying42 rfl (by kernel_rfl)) rfl ?_
 exact ⟨(by first | rfl | (simp [e0_,e1_] <;> rfl) | (simp [*,e0_,e1_] <;> rfl)),S.below⟩

/-! ### spec_flPass: function 213 -/
def spec_flPass.l0:Nat→List Int→Int→Int→Int→Int→Int→List (S42)→Option ((List (S42)))
  | 0,_,_,_,_,_,_,_=>none
  | k + 1,x1,x2,x28,x29,x182000,x182001,x182002=>if x29 < x28 then (if 0 ≤ x29 then (if x29 < (x182002.length:Int) then (if ((rd_T42 x182002 x29).f0) = 6 then (if x29 < (x1.length:Int) then (if 0 ≤ x2 then (if x2 < (x1.length:Int) then (if (rd x1 x29) = (rd x1 x2) then ((spec_paTurn.f ((rd_T42 x182002 x29).f0) ((rd_T42 x182002 x29).f1)).bind fun bt191=>(spec_flPass.l0 k x1 x2 x28 (wrap64 (x29 + 1)) x182000 x182001 (x182002.set (x29:Int).toNat (⟨bt191.1,bt191.2⟩:S42)))) else (spec_flPass.l0 k x1 x2 x28 (wrap64 (x29 + 1)) x182000 x182001 x182002)) else (none)) else (none)) else (none)) else (spec_flPass.l0 k x1 x2 x28 (wrap64 (x29 + 1)) x182000 x182001 x182002)) else (none)) else (none)) else (some x182002)
def spec_flPass.f (k:Nat) (a0_0:Int) (a0_1:Int) (l0_2:List (S42)) (l1:List Int) (a2:Int):Option ((List (S42))):=if 0 ≤ a2 then (if a2 < (l0_2.length:Int) then (if ((rd_T42 l0_2 a2).f0) = 3 then ((spec_paTurn.f ((rd_T42 l0_2 a2).f0) ((rd_T42 l0_2 a2).f1)).bind fun bt184=>(some (l0_2.set (a2:Int).toNat (⟨bt184.1,bt184.2⟩:S42)))) else (if ((rd_T42 l0_2 a2).f0) = 6 then (spec_flPass.l0 k l1 a2 (l0_2.length:Int) 0 a0_0 a0_1 l0_2) else (some l0_2))) else (none)) else (none)
theorem spec_flPass.calls (k:Nat) (a0_0:Int) (a0_1:Int) (P0_2_:Nat→Prop) (u9000_:Value) (l0_2:List (S42)) (A1:Option Addr) (c1:Nat) (l1:List Int) (a2:Int) (r:List (S42)) (w0 w:World) (hB:Below w0.heap.size w0 w) (ho0_2:Kd.R k42 42 w w0.heap.size P0_2_ u9000_ l0_2) (hr1:∀ W_,Kept w W_ (fun k_=>P0_2_ k_)→Kd.C (Kd.int .i64) W_ A1 l1.length l1) (hc1:l1.length ≤ c1) (h:spec_flPass.f k a0_0 a0_1 l0_2 l1 a2 = some r) :
    Calls Try.prog 213 #[.agg #[.int .i64 a0_0,.int .i64 a0_1,u9000_],.slice A1 l1.length c1,.int .i64 a2] w fun e w'=>e = .returned (.tuple #[])∧Kd.R k42 42 w' w0.heap.size (fun k_=>(P0_2_ k_∨w.heap.size ≤ k_)) u9000_ r∧Below w0.heap.size w0 w'∧Kept w w' (fun k_=>P0_2_ k_):=by
 obtain ⟨Al0_2,cl0_2,rfl⟩:=Kd.R_slice ho0_2
 have S:=St.own1 at42 hB ho0_2 (dk (atI .i64) hr1 hc1 dn)
 clear hB ho0_2 hr1 hc1
 have F:=S.fc
 have H:=h;clear h;unfold spec_flPass.f at H
 replace H:=np_ H;obtain ⟨c4,H⟩:=H;(try simp only [F] at c4)
 replace H:=np_ H;obtain ⟨c5,H⟩:=H;(try simp only [F] at c5)
 replace H:=sp_ H;rcases H with ⟨c6,H⟩ | ⟨c6,H⟩
 · skip
   replace c6:=ceq c6
   replace H:=Option.bind_eq_some_iff.mp H;obtain ⟨⟨t184,t185⟩,A7,H⟩:=H;(try dsimp only at H)
   (first | (with_reducible replace H:=ob_ H;obtain ⟨y186,hy186,H⟩:=H;(try dsimp only at H)) | (obtain ⟨y186,hy186⟩:∃ y_:List (S42),y_ = (l0_2.set (a2:Int).toNat (⟨t184,t185⟩:S42)):=⟨_,rfl⟩;(try rw [← hy186] at H);(try simp only [Option.bind_some] at H)));have Ny186:=Aside0.mk hy186;clear hy186
   obtain rfl:=Option.some.inj H
   go_enter Try.func213,Try.ntmps213
   go_wp2_with (first | ((with_reducible refine gd 3 rfl (L ?_));refine bo 3 (.agg #[_,_,_]) S ?_;clear S F;intro gb181 W S;have F:=S.fc) | ((with_reducible refine gd 6 rfl (L ?_));refine al 6 S zi42 ?_;clear S F;intro gb183 W S;have F:=S.fc) | ((with_reducible refine gs (t:=42) rfl (L ?_));refine sb (.agg #[_,_]) S sz42 ?_;clear S F;intro W S;(try simp only [gd42] at S);(try rw [← Ny186.out] at S);have F:=S.fc))
   refine rq S [(0,0),(0,2),(1,1),(1,3),(2,4),(0,5),(3,6)] [6] (h:=?_);clear S F;intro W S;have S0:=S;have F:=S.fc
   repeat (first | (refine q0 (h:=?_)) | (refine q1 S0 (h:=?_)))
   refine lk2 (by rfl) (by exact (Eq.refl true)) ?_;refine cl (some 22) Try.func218 (spec_paTurn.calls _ _ _ _ _ A7) (hargs:=by (simp only [ma_,mb_,mc_,F] <;> rfl)) (h:=?_);rintro e W ⟨rfl,hb⟩;refine ⟨_,rfl,?_⟩;replace S:=S.go hb;clear F hb;have F:=S.fc
   clear S0;have S0:=S;refine ⟨S0,?_⟩
   repeat ((refine q0 (h:=?_)))
   refine lk3 (by rfl) (by exact (Eq.refl true)) ?_;(first | refine sb (.agg #[_,_]) S sz42 ?_ | refine ro (.agg #[_,_]) S sz42 ?_ (ho:=rfl) (hx:=rfl) (hy:=rfl));clear S F;intro W S;(try simp only [gd42] at S);(try rw [← Ny186.out] at S);have F:=S.fc
   refine oz ?_
   try clear S0
   go_wp2
   first | go_end0 | ((try simp only [Exit.inBlock,Exit.then]);refine bodyPost_ret (results_none rfl _ _ _) rfl ?_)
   exact ⟨(by first | rfl | (simp [e0_,e1_] <;> rfl) | (simp [*,e0_,e1_] <;> rfl)),(by first | exact S.rp | exact Kd.R_nil _ _ _ _ _),S.below,S.kept⟩
 · skip
   replace c6:=cne c6
   replace H:=sp_ H;rcases H with ⟨c19,H⟩ | ⟨c19,H⟩
   · skip
     replace c19:=ceq c19
     go_enter Try.func213,Try.ntmps213
     go_wp2_with (first | ((with_reducible refine gd 3 rfl (L ?_));refine bo 3 (.agg #[_,_,_]) S ?_;clear S F;intro gb181 W S;have F:=S.fc) | ((with_reducible refine gd 6 rfl (L ?_));refine al 6 S zi42 ?_;clear S F;intro gb183 W S;have F:=S.fc) | ((with_reducible refine gs (t:=42) rfl (L ?_));refine sb (.agg #[_,_]) S sz42 ?_;clear S F;intro W S;(try simp only [gd42] at S);have F:=S.fc))
     go_loopg [29] k (fun kq v29 w'=>∃ (x29_1:Int) (x182002_1:List (S42)) (x184000_1:Int) (x184001_1:Int),v29 = .int .i64 x29_1∧spec_flPass.l0 kq l1 a2 (l0_2.length:Int) x29_1 a0_0 a0_1 x182002_1 = some r∧kq ≤ k∧St w0 w P0_2_ [bor (atI .i64) A1 c1 l1] w'  [box gb183 42 [.int .i64 x184000_1,.int .i64 x184001_1],box gb181 30 [.int .i64 a0_0,.int .i64 a0_1,.slice Al0_2 l0_2.length cl0_2],row at42 42 Al0_2 l0_2.length cl0_2 x182002_1])
     case atStart=>exact ⟨0,l0_2,((rd_T42 l0_2 a2).f0),((rd_T42 l0_2 a2).f1),(by first | rfl | (simp;done) | (simp [*];done) | (rw [w6_ (by omega) (by omega)])),(by first | exact H | (simp only [F];exact H)),Nat.le_refl _,S⟩
     case round =>
      clear H S F
      obtain ⟨x29_1,x182002_1,x184000_1,x184001_1,rfl,HA,HK1,S⟩:=hrel
      have F:=S.fc
      cases gk with
      | zero=>exact absurd HA (by simp [spec_flPass.l0])
      | succ k1 =>
       have H:=HA;clear HA;simp only [spec_flPass.l0,F] at H
       replace H:=sp_ H;rcases H with ⟨c27,H⟩ | ⟨c27,H⟩
       · skip
         replace H:=np_ H;obtain ⟨c28,H⟩:=H;(try simp only [F] at c28)
         replace H:=np_ H;obtain ⟨c29,H⟩:=H;(try simp only [F] at c29)
         replace H:=sp_ H;rcases H with ⟨c30,H⟩ | ⟨c30,H⟩
         · skip
           replace c30:=ceq c30
           replace H:=np_ H;obtain ⟨c31,H⟩:=H;(try simp only [F] at c31)
           replace H:=np_ H;obtain ⟨c32,H⟩:=H;(try simp only [F] at c32)
           replace H:=np_ H;obtain ⟨c33,H⟩:=H;(try simp only [F] at c33)
           replace H:=sp_ H;rcases H with ⟨c34,H⟩ | ⟨c34,H⟩
           · skip
             replace c34:=ceq c34
             replace H:=Option.bind_eq_some_iff.mp H;obtain ⟨⟨t191,t192⟩,A35,H⟩:=H;(try dsimp only at H)
             (first | (with_reducible replace H:=ob_ H;obtain ⟨y193,hy193,H⟩:=H;(try dsimp only at H)) | (obtain ⟨y193,hy193⟩:∃ y_:List (S42),y_ = (x182002_1.set (x29_1:Int).toNat (⟨t191,t192⟩:S42)):=⟨_,rfl⟩;(try rw [← hy193] at H);(try simp only [Option.bind_some] at H)));have Ny193:=Aside0.mk hy193;clear hy193
             go_wp2_with (first | ((with_reducible refine gd 8 rfl (L ?_));refine al 8 S zi42 ?_;clear S F;intro gb188 W S;have F:=S.fc) | ((with_reducible refine gs (t:=42) rfl (L ?_));refine sb (.agg #[_,_]) S sz42 ?_;clear S F;intro W S;(try simp only [gd42] at S);(try rw [← Ny193.out] at S);have F:=S.fc))
             refine rq S [(0,0),(1,1),(0,2),(0,3),(0,4),(0,5),(0,6),(0,8),(0,9),(0,10),(1,7),(1,11),(0,12),(0,13)] [] (h:=?_);clear S F;intro W S;have S0:=S;have F:=S.fc
             repeat (first | (refine q0 (h:=?_)) | (refine q1 S0 (h:=?_)))
             refine oz ?_
             try clear S0
             go_wp2
             refine rq S [(0,0),(0,2),(1,1),(1,3),(2,4),(0,5),(3,6)] [6] (h:=?_);clear S F;intro W S;have S0:=S;have F:=S.fc
             repeat (first | (refine q0 (h:=?_)) | (refine q1 S0 (h:=?_)))
             refine lk2 (by rfl) (by exact (Eq.refl true)) ?_;refine cl (some 52) Try.func218 (spec_paTurn.calls _ _ _ _ _ A35) (hargs:=by (simp only [ma_,mb_,mc_,F] <;> rfl)) (h:=?_);rintro e W ⟨rfl,hb⟩;refine ⟨_,rfl,?_⟩;replace S:=S.go hb;clear F hb;have F:=S.fc
             clear S0;have S0:=S;refine ⟨S0,?_⟩
             repeat ((refine q0 (h:=?_)))
             refine lk3 (by rfl) (by exact (Eq.refl true)) ?_;(first | refine sb (.agg #[_,_]) S sz42 ?_ | refine ro (.agg #[_,_]) S sz42 ?_ (ho:=rfl) (hx:=rfl) (hy:=rfl));clear S F;intro W S;(try simp only [gd42] at S);(try rw [← Ny193.out] at S);have F:=S.fc
             refine oz ?_
             try clear S0
             go_wp2
             go_roundg k1
             case measure=>omega
             case rel=>exact ⟨(wrap64 (x29_1 + 1)),y193,x184000_1,x184001_1,(by first | rfl | (simp;done) | (simp [*];done) | (rw [w6_ (by omega) (by omega)])),(by first | exact H | (simp only [F];exact H)),(by first | omega | exact Nat.le_refl _),S.tl⟩
           · skip
             replace c34:=cne c34
             go_wp2_with (first | ((with_reducible refine gd 8 rfl (L ?_));refine al 8 S zi42 ?_;clear S F;intro gb188 W S;have F:=S.fc) | ((with_reducible refine gs (t:=42) rfl (L ?_));refine sb (.agg #[_,_]) S sz42 ?_;clear S F;intro W S;(try simp only [gd42] at S);have F:=S.fc))
             refine rq S [(0,0),(1,1),(0,2),(0,3),(0,4),(0,5),(0,6),(0,8),(0,9),(0,10),(1,7),(1,11),(0,12),(0,13)] [] (h:=?_);clear S F;intro W S;have S0:=S;have F:=S.fc
             repeat (first | (refine q0 (h:=?_)) | (refine q1 S0 (h:=?_)))
             refine oz ?_
             try clear S0
             go_wp2
             go_roundg k1
             case measure=>omega
             case rel=>exact ⟨(wrap64 (x29_1 + 1)),x182002_1,x184000_1,x184001_1,(by first | rfl | (simp;done) | (simp [*];done) | (rw [w6_ (by omega) (by omega)])),(by first | exact H | (simp only [F];exact H)),(by first | omega | exact Nat.le_refl _),S.tl⟩
         · skip
           replace c30:=cne c30
           go_wp2_with (first | ((with_reducible refine gd 8 rfl (L ?_));refine al 8 S zi42 ?_;clear S F;intro gb188 W S;have F:=S.fc) | ((with_reducible refine gs (t:=42) rfl (L ?_));refine sb (.agg #[_,_]) S sz42 ?_;clear S F;intro W S;(try simp only [gd42] at S);have F:=S.fc))
           refine rq S [(0,0),(1,1),(0,2),(0,3),(0,4),(0,5),(0,6),(0,7),(0,8),(0,9),(0,10),(0,11),(0,12),(0,13)] [] (h:=?_);clear S F;intro W S;have S0:=S;have F:=S.fc
           repeat (first | (refine q0 (h:=?_)) | (refine q1 S0 (h:=?_)) | (refine q0n (h:=?_)) | (refine q1n S0 (h:=?_)))
           refine oz ?_
           try clear S0
           go_wp2
           go_roundg k1
           case measure=>omega
           case rel=>exact ⟨(wrap64 (x29_1 + 1)),x182002_1,x184000_1,x184001_1,(by first | rfl | (simp;done) | (simp [*];done) | (rw [w6_ (by omega) (by omega)])),(by first | exact H | (simp only [F];exact H)),(by first | omega | exact Nat.le_refl _),S.tl⟩
       · skip
         obtain rfl:=Option.some.inj H
         go_wp2
         first | go_end0 | ((try simp only [Exit.inBlock,Exit.then]);refine bodyPost_ret (results_none rfl _ _ _) rfl ?_)
         exact ⟨(by first | rfl | (simp [e0_,e1_] <;> rfl) | (simp [*,e0_,e1_] <;> rfl)),(by first | exact S.rp | exact Kd.R_nil _ _ _ _ _),S.below,S.kept⟩
   · skip
     replace c19:=cne c19
     obtain rfl:=Option.some.inj H
     go_enter Try.func213,Try.ntmps213
     go_wp2_with (first | ((with_reducible refine gd 3 rfl (L ?_));refine bo 3 (.agg #[_,_,_]) S ?_;clear S F;intro gb181 W S;have F:=S.fc) | ((with_reducible refine gd 6 rfl (L ?_));refine al 6 S zi42 ?_;clear S F;intro gb183 W S;have F:=S.fc) | ((with_reducible refine gs (t:=42) rfl (L ?_));refine sb (.agg #[_,_]) S sz42 ?_;clear S F;intro W S;(try simp only [gd42] at S);have F:=S.fc))
     first | go_end0 | ((try simp only [Exit.inBlock,Exit.then]);refine bodyPost_ret (results_none rfl _ _ _) rfl ?_)
     exact ⟨(by first | rfl | (simp [e0_,e1_] <;> rfl) | (simp [*,e0_,e1_] <;> rfl)),(by first | exact S.rp | exact Kd.R_nil _ _ _ _ _),S.below,S.kept⟩

/-! ### spec_flGo: function 176 -/
def spec_flGo.l0:Nat→List Int→Int→List (List Int)→Int→Int→Int→Int→List (S42)→Int→Int→List (S42)→Option (Int × Int × Int × Int × Int × (List (S42)) × (List (List Int)))
  | 0,_,_,_,_,_,_,_,_,_,_,_=>none
  | k + 1,x1,x2,x10,x11,x12,x195000,x195001,x195002,x203000,x203001,x203002=>if x12 < x195000 then (if x10.length < 5864062014805 then ((some (x10 ++ [(([x12,x2]:List Int))]:List (List Int))).bind fun y206=>((spec_boAt.f x203000 x203001 x203002 x12 x2).bind fun bt209=>(if bt209.1 = 5 then (some (2,x12,x2,x203000,x203001,x203002,y206)) else ((spec_paGoes.f k bt209.1 bt209.2 x11).bind fun t212=>((spec_flPass.f k x203000 x203001 x203002 x1 (wrap64 ((wrap64 (x12 * x195001)) + x2))).bind fun t213=>((spec_l1In.f (wrap64 (x2 + t212)) 0 (wrap64 (x195001 - 1))).bind fun t214=>(if t214 = true then (spec_flGo.l0 k x1 (wrap64 (x2 + t212)) y206 (wrap64 (-t212)) (wrap64 (x12 + 1)) x195000 x195001 x195002 x203000 x203001 t213) else (some (3,x12,wrap64 (x2 + t212),x203000,x203001,t213,y206))))))))) else (none)) else (some (1,x195000,x2,x203000,x203001,x203002,x10))
def spec_flGo.f (k:Nat) (a0_0:Int) (a0_1:Int) (l0_2:List (S42)) (l1:List Int) (a2:Int):Option (Int × Int × Int × Int × Int × (List (S42)) × (List (List Int))):=(spec_boOwn.f a0_0 a0_1 l0_2).bind fun bt197=>(spec_flGo.l0 k l1 a2 ([]:List (List Int)) 0 0 a0_0 a0_1 l0_2 bt197.1 bt197.2.1 bt197.2.2)
theorem spec_flGo.calls (k:Nat) (a0_0:Int) (a0_1:Int) (A0_2:Option Addr) (c0_2:Nat) (l0_2:List (S42)) (A1:Option Addr) (c1:Nat) (l1:List Int) (a2:Int) (r1:Int) (r2:Int) (r3:Int) (r4:Int) (r5:Int) (r6:List (S42)) (r7:List (List Int)) (w:World) (hr0_2:Kd.C k42 w A0_2 l0_2.length l0_2) (hc0_2:l0_2.length ≤ c0_2) (hr1:Kd.C (Kd.int .i64) w A1 l1.length l1) (hc1:l1.length ≤ c1) (h:spec_flGo.f k a0_0 a0_1 l0_2 l1 a2 = some (r1,r2,r3,r4,r5,r6,r7)) :
    Calls Try.prog 176 #[.agg #[.int .i64 a0_0,.int .i64 a0_1,.slice A0_2 l0_2.length c0_2],.slice A1 l1.length c1,.int .i64 a2] w fun e w'=>∃ v5_ v6_:Value,e = .returned (.tuple #[.agg #[.int .i64 r1,.int .i64 r2,.int .i64 r3],.agg #[.int .i64 r4,.int .i64 r5,v5_],v6_])∧Kd.R k42 42 w' w.heap.size (fun _=>True) v5_ r6∧Kd.R (Kd.slice 3 (Kd.int .i64)) 25 w' w.heap.size (fun _=>True) v6_ r7∧Below w.heap.size w w':=by
 have S:=St.init (w:=w) (dc k42_heap at42 hr0_2 hc0_2 (dc (Kd.heap_int .i64) (atI .i64) hr1 hc1 dn))
 clear hr0_2 hc0_2 hr1 hc1
 have F:=S.fc
 have H:=h;clear h;unfold spec_flGo.f at H
 replace H:=Option.bind_eq_some_iff.mp H;obtain ⟨⟨t197,t198,t199⟩,A4,H⟩:=H;(try dsimp only at H)
 go_enter Try.func176,Try.ntmps176
 go_wp2_with (first | ((with_reducible refine gd 3 rfl (L ?_));refine bo 3 (.agg #[_,_,_]) S ?_;clear S F;intro gb194 W S;have F:=S.fc) | ((with_reducible refine gd 6 rfl (L ?_));refine al 6 S zi80 ?_;clear S F;intro gb195 W S;have F:=S.fc) | ((with_reducible refine gd 7 rfl (L ?_));refine al 7 S zi30 ?_;clear S F;intro gb196 W S;have F:=S.fc) | ((with_reducible refine gate_callee (f:=170) rfl (L ?_));refine cl (some 16) Try.func170 (spec_boOwn.calls _ _ _ _ _ _ _ _ _ S.c S.n A4) (hargs:=by (simp only [ma_,mb_,mc_,F] <;> rfl)) (h:=?_);rintro e W ⟨v200,rfl,ho0,hb⟩;refine ⟨_,rfl,?_⟩;replace S:=S.got at42 hb ho0;obtain ⟨At199,ct199,rfl,S⟩:=S;clear F hb ho0;have F:=S.fc) | ((with_reducible refine gd 9 rfl (L ?_));refine al 9 S zi30 ?_;clear S F;intro gb202 W S;have F:=S.fc) | ((with_reducible refine gs (t:=30) rfl (L ?_));refine sb (.agg #[_,_,_]) S sz30 ?_;(clear S F;intro W S;have F:=S.fc)))
 go_loopg [2,10,11,12] k (fun kq v2 v10 v11 v12 w'=>∃ (x2_1:Int) (x10_1:List (List Int)) (x11_1:Int) (x12_1:Int) (x196000_1:Int) (x196001_1:Int) (x196002_1:Int) (x197000_1:Int) (x197001_1:Int) (x203002_1:List (S42)) (Ax10_1:Option Addr) (cx10_1:Nat) (Ax203002_1:Option Addr) (cx203002_1:Nat),v2 = .int .i64 x2_1∧v11 = .int .i64 x11_1∧v12 = .int .i64 x12_1∧v10 = .slice Ax10_1 x10_1.length cx10_1∧spec_flGo.l0 kq l1 x2_1 x10_1 x11_1 x12_1 a0_0 a0_1 l0_2 t197 t198 x203002_1 = some (r1,r2,r3,r4,r5,r6,r7)∧kq ≤ k∧St w w (fun _=>False) [bor at42 A0_2 c0_2 l0_2,bor (atI .i64) A1 c1 l1] w'  [row (atU (d:=Kd.slice 3 (Kd.int .i64))) 25 Ax10_1 x10_1.length cx10_1 x10_1,box gb202 30 [.int .i64 t197,.int .i64 t198,.slice Ax203002_1 x203002_1.length cx203002_1],row at42 42 Ax203002_1 x203002_1.length cx203002_1 x203002_1,box gb196 30 [.int .i64 x197000_1,.int .i64 x197001_1,.slice none 0 0],box gb195 80 [.int .i64 x196000_1,.int .i64 x196001_1,.int .i64 x196002_1],box gb194 30 [.int .i64 a0_0,.int .i64 a0_1,.slice A0_2 l0_2.length c0_2]])
 case atStart=>exact ⟨a2,_,0,0,0,0,0,0,0,t199,_,_,_,_,(by first | rfl | (simp;done) | (simp [*];done) | (rw [w6_ (by omega) (by omega)])),(by first | rfl | (simp;done) | (simp [*];done) | (rw [w6_ (by omega) (by omega)])),(by first | rfl | (simp;done) | (simp [*];done) | (rw [w6_ (by omega) (by omega)])),rfl,H,Nat.le_refl _,(S.nl (e:=25) (atU (d:=Kd.slice 3 (Kd.int .i64))))⟩
 case round =>
  clear H S F
  obtain ⟨x2_1,x10_1,x11_1,x12_1,x196000_1,x196001_1,x196002_1,x197000_1,x197001_1,x203002_1,Ax10_1,cx10_1,Ax203002_1,cx203002_1,rfl,rfl,rfl,rfl,HA,HK1,S⟩:=hrel
  have F:=S.fc
  cases gk with
  | zero=>exact absurd HA (by simp [spec_flGo.l0])
  | succ k1 =>
   have H:=HA;clear HA;simp only [spec_flGo.l0,F] at H
   replace H:=sp_ H;rcases H with ⟨c18,H⟩ | ⟨c18,H⟩
   · skip
     (first | (with_reducible replace H:=ob_ H;obtain ⟨y203,hy203,H⟩:=H;(try dsimp only at H)) | (obtain ⟨y203,hy203⟩:∃ y_:List Int,y_ = (([x12_1,x2_1]:List Int)):=⟨_,rfl⟩;(try rw [← hy203] at H);(try simp only [Option.bind_some] at H)));have Ny203:=Aside0.mk hy203;clear hy203
     replace H:=np_ H;obtain ⟨c19,H⟩:=H
     (first | (with_reducible replace H:=ob_ H;obtain ⟨y206,hy206,H⟩:=H;(try dsimp only at H)) | (obtain ⟨y206,hy206⟩:∃ y_:List (List Int),y_ = (x10_1 ++ [y203]):=⟨_,rfl⟩;(try rw [← hy206] at H);(try simp only [Option.bind_some] at H)));have Ny206:=Aside0.mk hy206;clear hy206
     replace H:=Option.bind_eq_some_iff.mp H;obtain ⟨⟨t209,t210⟩,A20,H⟩:=H;(try dsimp only at H)
     replace H:=sp_ H;rcases H with ⟨c21,H⟩ | ⟨c21,H⟩
     · skip
       replace c21:=ceq c21
       simp only [Option.some.injEq,Prod.mk.injEq] at H
       obtain ⟨rfl,rfl,rfl,rfl,rfl,rfl,rfl⟩:=H
       go_wp2_with (first | ((with_reducible refine gd 26 rfl (L ?_));refine lia 26 (atI .i64) 3 S ([x12_1,x2_1]:List Int) (fun _ _=>(Reps.one (show Kd.M (Kd.int .i64) _ _ _ x12_1 [.int .i64 x12_1] from rfl) (Reps.one (show Kd.M (Kd.int .i64) _ _ _ x2_1 [.int .i64 x2_1] from rfl) (Reps.none _ _)))) (by first | (go_simp;done) | (go_simp;rfl)) ?_;clear S F;intro Ay203 cy203 W S;(try rw [← Ny203.out] at S ⊢);(try rw [← Ny206.out] at S ⊢);have F:=S.fc) | ((with_reducible refine gd 28 rfl (L ?_));refine apm (A:=Ax10_1) (A2:=Ay203) 28 S Try.underlying68 info25 ?_ (ho:=rfl) (hs:=rfl) (hx:=rfl);clear S F;intro Ay206 cy206 W S;(try rw [← Ny203.out] at S ⊢);(try rw [← Ny206.out] at S ⊢);have F:=S.fc) | ((with_reducible refine gate_callee (f:=211) rfl (L ?_));refine cl (some 32) Try.func211 (spec_boAt.calls _ _ _ _ _ _ _ _ _ _ S.c S.n A20) (hargs:=by (simp only [ma_,mb_,mc_,F] <;> rfl)) (h:=?_);rintro e W ⟨rfl,hb⟩;refine ⟨_,rfl,?_⟩;replace S:=S.go hb;clear F hb;have F:=S.fc) | ((with_reducible refine gd 13 rfl (L ?_));refine al 13 S zi42 ?_;clear S F;intro gb211 W S;have F:=S.fc) | ((with_reducible refine gs (t:=42) rfl (L ?_));refine sb (.agg #[_,_]) S sz42 ?_;clear S F;intro W S;(try rw [← Ny203.out] at S);(try rw [← Ny206.out] at S);have F:=S.fc))
       refine rgP S (fun _ S=>(S.ms [1,1,1,1,1,0,0])) [(0,0),(0,1),(0,2),(0,4),(1,3),(2,5),(2,6),(0,7)] [] (by kernel_rfl) (by kernel_rfl) (fun _ d _ _ _ h=>by cases d <;> exact h) ?_;clear S F;intro W S;have S0:=(S.ms [1,1,1,1,1,0,0]);have F:=S.fc
       repeat (first | (refine q0 (h:=?_)) | (refine q1 S0 (h:=?_)))
       refine lk2 (by rfl) (by exact (Eq.refl true)) ?_;(first | refine sb (.agg #[_,_,_]) S sz30 ?_ | refine ro (.agg #[_,_,_]) S sz30 ?_ (ho:=rfl) (hx:=rfl) (hy:=rfl) | refine sb (.agg #[_,_]) S sz42 ?_ | refine ro (.agg #[_,_]) S sz42 ?_ (ho:=rfl) (hx:=rfl) (hy:=rfl) | refine sb (.agg #[_,_,_]) S sz80 ?_ | refine ro (.agg #[_,_,_]) S sz80 ?_ (ho:=rfl) (hx:=rfl) (hy:=rfl));clear S F;intro W S;(try rw [← Ny203.out] at S);(try rw [← Ny206.out] at S);have F:=S.fc
       clear S0;have S0:=(S.ms [1,1,1,1,1,0,0]);refine ⟨S0,?_⟩
       refine lk2 (by rfl) (by exact (Eq.refl true)) ?_;(first | refine sb (.agg #[_,_,_]) S sz30 ?_ | refine ro (.agg #[_,_,_]) S sz30 ?_ (ho:=rfl) (hx:=rfl) (hy:=rfl) | refine sb (.agg #[_,_]) S sz42 ?_ | refine ro (.agg #[_,_]) S sz42 ?_ (ho:=rfl) (hx:=rfl) (hy:=rfl) | refine sb (.agg #[_,_,_]) S sz80 ?_ | refine ro (.agg #[_,_,_]) S sz80 ?_ (ho:=rfl) (hx:=rfl) (hy:=rfl));clear S F;intro W S;(try rw [← Ny203.out] at S);(try rw [← Ny206.out] at S);have F:=S.fc
       clear S0;have S0:=(S.ms [1,1,1,1,1,0,0]);refine ⟨S0,?_⟩
       repeat ((refine q0 (h:=?_)))
       refine oz ?_
       try clear S0
       go_wp2
       refine bodyPost_ret (results_list (rs:=[.cell 6 80,.cell 7 30,.tmp 8]) rfl (by simp) (.cell gb195 80 #[.int .i64 2,.int .i64 x12_1,.int .i64 x2_1] (0,0) _ rfl S.hb Try.underlying80 rfl (by kernel_rfl) (.cell gb196 30 #[.int .i64 t197,.int .i64 t198,.slice Ax203002_1 x203002_1.length cx203002_1] (0,0) _ rfl S.hb Try.underlying30 rfl (by kernel_rfl) (.tmp .nil)))) rfl ?_
       exact ⟨_,_,(by first | rfl | (simp [e0_,e1_] <;> rfl) | (simp [*,e0_,e1_] <;> rfl)),(by first | exact S.r | exact Kd.R_nil _ _ _ _ _),(by first | exact S.r | exact Kd.R_nil _ _ _ _ _),S.below⟩
     · skip
       replace c21:=cne c21
       replace H:=Option.bind_eq_some_iff.mp H;obtain ⟨t212,A49,H⟩:=H;(try dsimp only at H)
       replace H:=Option.bind_eq_some_iff.mp H;obtain ⟨t213,A50,H⟩:=H;(try dsimp only at H)
       replace H:=Option.bind_eq_some_iff.mp H;obtain ⟨t214,A51,H⟩:=H;(try dsimp only at H)
       replace H:=sp_ H;rcases H with ⟨c52,H⟩ | ⟨c52,H⟩
       · skip
         subst c52
         go_wp2_with (first | ((with_reducible refine gd 26 rfl (L ?_));refine lia 26 (atI .i64) 3 S ([x12_1,x2_1]:List Int) (fun _ _=>(Reps.one (show Kd.M (Kd.int .i64) _ _ _ x12_1 [.int .i64 x12_1] from rfl) (Reps.one (show Kd.M (Kd.int .i64) _ _ _ x2_1 [.int .i64 x2_1] from rfl) (Reps.none _ _)))) (by first | (go_simp;done) | (go_simp;rfl)) ?_;clear S F;intro Ay203 cy203 W S;(try rw [← Ny203.out] at S ⊢);(try rw [← Ny206.out] at S ⊢);have F:=S.fc) | ((with_reducible refine gd 28 rfl (L ?_));refine apm (A:=Ax10_1) (A2:=Ay203) 28 S Try.underlying68 info25 ?_ (ho:=rfl) (hs:=rfl) (hx:=rfl);clear S F;intro Ay206 cy206 W S;(try rw [← Ny203.out] at S ⊢);(try rw [← Ny206.out] at S ⊢);have F:=S.fc) | ((with_reducible refine gate_callee (f:=211) rfl (L ?_));refine cl (some 32) Try.func211 (spec_boAt.calls _ _ _ _ _ _ _ _ _ _ S.c S.n A20) (hargs:=by (simp only [ma_,mb_,mc_,F] <;> rfl)) (h:=?_);rintro e W ⟨rfl,hb⟩;refine ⟨_,rfl,?_⟩;replace S:=S.go hb;clear F hb;have F:=S.fc) | ((with_reducible refine gd 13 rfl (L ?_));refine al 13 S zi42 ?_;clear S F;intro gb211 W S;have F:=S.fc) | ((with_reducible refine gate_callee (f:=212) rfl (L ?_));refine cl (some 43) Try.func212 (spec_paGoes.calls _ _ _ _ _ _ A49) (hargs:=by (simp only [ma_,mb_,mc_,F] <;> rfl)) (h:=?_);rintro e W ⟨rfl,hb⟩;refine ⟨_,rfl,?_⟩;replace S:=S.go hb;clear F hb;have F:=S.fc) | ((with_reducible refine gate_callee (f:=213) rfl (L ?_));obtain ⟨ok_,k_⟩:=S.lend (A:=Ax203002_1);refine cl (some 52) Try.func213 (spec_flPass.calls _ _ _ ok_ _ _ _ _ _ _ _ _ _ k_.below k_.own k_.c k_.n A50) (hargs:=by (simp only [ma_,mb_,mc_,F] <;> rfl)) (h:=?_);rintro e W ⟨rfl,hy,hb,hk⟩;refine ⟨_,rfl,?_⟩;clear S F;have S:=k_.back _ _ hy hb hk;clear k_ hy hb hk ok_;have F:=S.fc) | ((with_reducible refine gate_callee (f:=116) rfl (L ?_));refine cl (some 62) Try.func116 (spec_l1In.calls _ _ _ _ _ A51) (hargs:=by (simp only [ma_,mb_,mc_,F] <;> rfl)) (h:=?_);rintro e W ⟨rfl,hb⟩;refine ⟨_,rfl,?_⟩;replace S:=S.gw hb;clear F hb;have F:=S.fc) | ((with_reducible refine gs (t:=42) rfl (L ?_));refine sb (.agg #[_,_]) S sz42 ?_;clear S F;intro W S;(try rw [← Ny203.out] at S);(try rw [← Ny206.out] at S);have F:=S.fc))
         go_roundg k1
         case measure=>omega
         case rel=>(try rw [← (show t213.length = x203002_1.length by simp only [F])] at S);exact ⟨(wrap64 (x2_1 + t212)),y206,(wrap64 (-t212)),(wrap64 (x12_1 + 1)),x196000_1,x196001_1,x196002_1,x197000_1,x197001_1,t213,_,_,_,_,(by first | rfl | (simp;done) | (simp [*];done) | (rw [w6_ (by omega) (by omega)])),(by first | rfl | (simp;done) | (simp [*];done) | (rw [w6_ (by omega) (by omega)])),(by first | rfl | (simp;done) | (simp [*];done) | (rw [w6_ (by omega) (by omega)])),(by first | rfl | simp only [F]),H,(by first | omega | exact Nat.le_refl _),S.tl.tl⟩
       · skip
         replace c52:=cbf c52;subst c52
         simp only [Option.some.injEq,Prod.mk.injEq] at H
         obtain ⟨rfl,rfl,rfl,rfl,rfl,rfl,rfl⟩:=H
         go_wp2_with (first | ((with_reducible refine gd 26 rfl (L ?_));refine lia 26 (atI .i64) 3 S ([x12_1,x2_1]:List Int) (fun _ _=>(Reps.one (show Kd.M (Kd.int .i64) _ _ _ x12_1 [.int .i64 x12_1] from rfl) (Reps.one (show Kd.M (Kd.int .i64) _ _ _ x2_1 [.int .i64 x2_1] from rfl) (Reps.none _ _)))) (by first | (go_simp;done) | (go_simp;rfl)) ?_;clear S F;intro Ay203 cy203 W S;(try rw [← Ny203.out] at S ⊢);(try rw [← Ny206.out] at S ⊢);have F:=S.fc) | ((with_reducible refine gd 28 rfl (L ?_));refine apm (A:=Ax10_1) (A2:=Ay203) 28 S Try.underlying68 info25 ?_ (ho:=rfl) (hs:=rfl) (hx:=rfl);clear S F;intro Ay206 cy206 W S;(try rw [← Ny203.out] at S ⊢);(try rw [← Ny206.out] at S ⊢);have F:=S.fc) | ((with_reducible refine gate_callee (f:=211) rfl (L ?_));refine cl (some 32) Try.func211 (spec_boAt.calls _ _ _ _ _ _ _ _ _ _ S.c S.n A20) (hargs:=by (simp only [ma_,mb_,mc_,F] <;> rfl)) (h:=?_);rintro e W ⟨rfl,hb⟩;refine ⟨_,rfl,?_⟩;replace S:=S.go hb;clear F hb;have F:=S.fc) | ((with_reducible refine gd 13 rfl (L ?_));refine al 13 S zi42 ?_;clear S F;intro gb211 W S;have F:=S.fc) | ((with_reducible refine gate_callee (f:=212) rfl (L ?_));refine cl (some 43) Try.func212 (spec_paGoes.calls _ _ _ _ _ _ A49) (hargs:=by (simp only [ma_,mb_,mc_,F] <;> rfl)) (h:=?_);rintro e W ⟨rfl,hb⟩;refine ⟨_,rfl,?_⟩;replace S:=S.go hb;clear F hb;have F:=S.fc) | ((with_reducible refine gate_callee (f:=213) rfl (L ?_));obtain ⟨ok_,k_⟩:=S.lend (A:=Ax203002_1);refine cl (some 52) Try.func213 (spec_flPass.calls _ _ _ ok_ _ _ _ _ _ _ _ _ _ k_.below k_.own k_.c k_.n A50) (hargs:=by (simp only [ma_,mb_,mc_,F] <;> rfl)) (h:=?_);rintro e W ⟨rfl,hy,hb,hk⟩;refine ⟨_,rfl,?_⟩;clear S F;have S:=k_.back _ _ hy hb hk;clear k_ hy hb hk ok_;have F:=S.fc) | ((with_reducible refine gate_callee (f:=116) rfl (L ?_));refine cl (some 62) Try.func116 (spec_l1In.calls _ _ _ _ _ A51) (hargs:=by (simp only [ma_,mb_,mc_,F] <;> rfl)) (h:=?_);rintro e W ⟨rfl,hb⟩;refine ⟨_,rfl,?_⟩;replace S:=S.gw hb;clear F hb;have F:=S.fc) | ((with_reducible refine gs (t:=42) rfl (L ?_));refine sb (.agg #[_,_]) S sz42 ?_;clear S F;intro W S;(try rw [← Ny203.out] at S);(try rw [← Ny206.out] at S);have F:=S.fc))
         refine rgP S (fun _ S=>(S.ms [1,1,1,1,1,0,0])) [(0,0),(0,1),(0,2),(0,4),(1,3),(2,5),(2,6),(0,7)] [] (by kernel_rfl) (by kernel_rfl) (fun _ d _ _ _ h=>by cases d <;> exact h) ?_;clear S F;intro W S;have S0:=(S.ms [1,1,1,1,1,0,0]);have F:=S.fc
         repeat (first | (refine q0 (h:=?_)) | (refine q1 S0 (h:=?_)))
         refine lk2 (by rfl) (by exact (Eq.refl true)) ?_;(first | refine sb (.agg #[_,_,_]) S sz30 ?_ | refine ro (.agg #[_,_,_]) S sz30 ?_ (ho:=rfl) (hx:=rfl) (hy:=rfl) | refine sb (.agg #[_,_]) S sz42 ?_ | refine ro (.agg #[_,_]) S sz42 ?_ (ho:=rfl) (hx:=rfl) (hy:=rfl) | refine sb (.agg #[_,_,_]) S sz80 ?_ | refine ro (.agg #[_,_,_]) S sz80 ?_ (ho:=rfl) (hx:=rfl) (hy:=rfl));clear S F;intro W S;(try rw [← Ny203.out] at S);(try rw [← Ny206.out] at S);have F:=S.fc
         clear S0;have S0:=(S.ms [1,1,1,1,1,0,0]);refine ⟨S0,?_⟩
         refine lk2 (by rfl) (by exact (Eq.refl true)) ?_;(first | refine sb (.agg #[_,_,_]) S sz30 ?_ | refine ro (.agg #[_,_,_]) S sz30 ?_ (ho:=rfl) (hx:=rfl) (hy:=rfl) | refine sb (.agg #[_,_]) S sz42 ?_ | refine ro (.agg #[_,_]) S sz42 ?_ (ho:=rfl) (hx:=rfl) (hy:=rfl) | refine sb (.agg #[_,_,_]) S sz80 ?_ | refine ro (.agg #[_,_,_]) S sz80 ?_ (ho:=rfl) (hx:=rfl) (hy:=rfl));clear S F;intro W S;(try rw [← Ny203.out] at S);(try rw [← Ny206.out] at S);have F:=S.fc
         clear S0;have S0:=(S.ms [1,1,1,1,1,0,0]);refine ⟨S0,?_⟩
         repeat ((refine q0 (h:=?_)))
         refine oz ?_
         try clear S0
         go_wp2
         refine bodyPost_ret (results_list (rs:=[.cell 6 80,.cell 7 30,.tmp 8]) rfl (by simp) (.cell gb195 80 #[.int .i64 3,.int .i64 x12_1,.int .i64 (wrap64 (x2_1 + t212))] (0,0) _ rfl S.hb Try.underlying80 rfl (by kernel_rfl) (.cell gb196 30 #[.int .i64 t197,.int .i64 t198,.slice Ax203002_1 x203002_1.length cx203002_1] (0,0) _ rfl S.hb Try.underlying30 rfl (by kernel_rfl) (.tmp .nil)))) rfl ?_
         exact ⟨_,_,(by first | rfl | (simp [e0_,e1_] <;> rfl) | (simp [*,e0_,e1_] <;> rfl)),(by first | exact S.r | exact Kd.R_nil _ _ _ _ _),(by first | exact S.r | exact Kd.R_nil _ _ _ _ _),S.below⟩
   · skip
     simp only [Option.some.injEq,Prod.mk.injEq] at H
     obtain ⟨rfl,rfl,rfl,rfl,rfl,rfl,rfl⟩:=H
     go_wp2
     refine rgP S (fun _ S=>(S.pm [0,1,2,5])) [(0,0),(0,2),(0,5),(1,1),(0,3),(1,4),(2,6),(2,7),(0,8)] [] (by kernel_rfl) (by kernel_rfl) (fun _ d _ _ _ h=>by cases d <;> exact h) ?_;clear S F;intro W S;have S0:=(S.pm [0,1,2,5]);have F:=S.fc
     repeat (first | (refine q0 (h:=?_)) | (refine q1 S0 (h:=?_)))
     refine lk2 (by rfl) (by exact (Eq.refl true)) ?_;(first | refine sb (.agg #[_,_,_]) S sz30 ?_ | refine ro (.agg #[_,_,_]) S sz30 ?_ (ho:=rfl) (hx:=rfl) (hy:=rfl) | refine sb (.agg #[_,_]) S sz42 ?_ | refine ro (.agg #[_,_]) S sz42 ?_ (ho:=rfl) (hx:=rfl) (hy:=rfl) | refine sb (.agg #[_,_,_]) S sz80 ?_ | refine ro (.agg #[_,_,_]) S sz80 ?_ (ho:=rfl) (hx:=rfl) (hy:=rfl));(clear S F;intro W S;have F:=S.fc)
     clear S0;have S0:=(S.pm [0,1,2,5]);refine ⟨S0,?_⟩
     refine lk2 (by rfl) (by exact (Eq.refl true)) ?_;(first | refine sb (.agg #[_,_,_]) S sz30 ?_ | refine ro (.agg #[_,_,_]) S sz30 ?_ (ho:=rfl) (hx:=rfl) (hy:=rfl) | refine sb (.agg #[_,_]) S sz42 ?_ | refine ro (.agg #[_,_]) S sz42 ?_ (ho:=rfl) (hx:=rfl) (hy:=rfl) | refine sb (.agg #[_,_,_]) S sz80 ?_ | refine ro (.agg #[_,_,_]) S sz80 ?_ (ho:=rfl) (hx:=rfl) (hy:=rfl));(clear S F;intro W S;have F:=S.fc)
     clear S0;have S0:=(S.pm [0,1,2,5]);refine ⟨S0,?_⟩
     repeat ((refine q0 (h:=?_)))
     refine oz ?_
     try clear S0
     go_wp2
     refine bodyPost_ret (results_list (rs:=[.cell 6 80,.cell 7 30,.tmp 8]) rfl (by simp) (.cell gb195 80 #[.int .i64 1,.int .i64 a0_0,.int .i64 x2_1] (0,0) _ rfl S.hb Try.underlying80 rfl (by kernel_rfl) (.cell gb196 30 #[.int .i64 t197,.int .i64 t198,.slice Ax203002_1 x203002_1.length cx203002_1] (0,0) _ rfl S.hb Try.underlying30 rfl (by kernel_rfl) (.tmp .nil)))) rfl ?_
     exact ⟨_,_,(by first | rfl | (simp [e0_,e1_] <;> rfl) | (simp [*,e0_,e1_] <;> rfl)),(by first | exact S.r | exact Kd.R_nil _ _ _ _ _),(by first | exact S.r | exact Kd.R_nil _ _ _ _ _),S.below⟩

/-! ### spec_flRun: function 141 -/
def spec_flRun.f (k:Nat) (a0_0:Int) (a0_1:Int) (l0_2:List (S42)) (a1:Int):Option (Int × Int × Int × Int × Int × (List (S42))):=(spec_ggGroups.f k a0_0 a0_1 l0_2).bind fun t218=>((spec_flGo.f k a0_0 a0_1 l0_2 t218 a1).bind fun bt221=>(some (bt221.1,bt221.2.1,bt221.2.2.1,bt221.2.2.2.1,bt221.2.2.2.2.1,bt221.2.2.2.2.2.1)))
theorem spec_flRun.calls (k:Nat) (a0_0:Int) (a0_1:Int) (A0_2:Option Addr) (c0_2:Nat) (l0_2:List (S42)) (a1:Int) (r1:Int) (r2:Int) (r3:Int) (r4:Int) (r5:Int) (r6:List (S42)) (w:World) (hr0_2:Kd.C k42 w A0_2 l0_2.length l0_2) (hc0_2:l0_2.length ≤ c0_2) (h:spec_flRun.f k a0_0 a0_1 l0_2 a1 = some (r1,r2,r3,r4,r5,r6)) :
    Calls Try.prog 141 #[.agg #[.int .i64 a0_0,.int .i64 a0_1,.slice A0_2 l0_2.length c0_2],.int .i64 a1] w fun e w'=>∃ v5_:Value,e = .returned (.tuple #[.agg #[.int .i64 r1,.int .i64 r2,.int .i64 r3],.agg #[.int .i64 r4,.int .i64 r5,v5_]])∧Kd.R k42 42 w' w.heap.size (fun _=>True) v5_ r6∧Below w.heap.size w w':=by
 have S:=St.init (w:=w) (dc k42_heap at42 hr0_2 hc0_2 dn)
 clear hr0_2 hc0_2
 have F:=S.fc
 have H:=h;clear h;unfold spec_flRun.f at H
 replace H:=Option.bind_eq_some_iff.mp H;obtain ⟨t218,A3,H⟩:=H;(try dsimp only at H)
 replace H:=Option.bind_eq_some_iff.mp H;obtain ⟨⟨t221,t222,t223,t224,t225,t226,t229⟩,A4,H⟩:=H;(try dsimp only at H)
 simp only [Option.some.injEq,Prod.mk.injEq] at H
 obtain ⟨rfl,rfl,rfl,rfl,rfl,rfl⟩:=H
 go_enter Try.func141,Try.ntmps141
 go_wp2_with (first | ((with_reducible refine gd 2 rfl (L ?_));refine bo 2 (.agg #[_,_,_]) S ?_;clear S F;intro gb215 W S;have F:=S.fc) | ((with_reducible refine gd 4 rfl (L ?_));refine al 4 S zi80 ?_;clear S F;intro gb216 W S;have F:=S.fc) | ((with_reducible refine gd 5 rfl (L ?_));refine al 5 S zi30 ?_;clear S F;intro gb217 W S;have F:=S.fc))
 refine rgF S (fun _ S=>S) (fkc 9 6 zi80 (fkc 10 7 zi30 fk0)) [(0,3),(1,0),(1,1),(2,2),(2,4),(0,5),(0,6),(0,7),(0,8)] [(3,11),(3,12),(0,13)] [11,12] (id:=1) (h:=?_);clear S F;intro W S;have S0:=S;have F:=S.fc
 repeat (first | (refine f0 (h:=?_)) | (refine f1 S0 (h:=?_)))
 refine fe2 S (by rfl) ?_;intro x6_ x7_ X W S;simp only [List.cons_append,List.nil_append,putF,Act.put,za_,zb_,zc_] at S ⊢;clear F;have F:=S.fc;refine ⟨rfl,?_⟩;refine cl (some 12) Try.func175 (spec_ggGroups.calls _ _ _ _ _ _ _ _ S.c S.n A3) (hargs:=by (simp only [ma_,mb_,mc_,F] <;> rfl)) (h:=?_);rintro e W ⟨v219,rfl,ho0,hb⟩;refine ⟨_,rfl,?_⟩;replace S:=S.got (atI .i64) hb ho0;obtain ⟨At218,ct218,rfl,S⟩:=S;clear F hb ho0;have F:=S.fc
 clear S0;have S0:=(S.nx X).tl;refine ⟨S0,?_⟩
 refine fe2 S (by rfl) ?_;intro x6_ x7_ X W S;simp only [List.cons_append,List.nil_append,putF,Act.put,za_,zb_,zc_] at S ⊢;clear F;have F:=S.fc;refine ⟨rfl,?_⟩;refine cl (some 14) Try.func176 (spec_flGo.calls _ _ _ _ _ _ _ _ _ _ _ _ _ _ _ _ _ _ S.c S.n S.c S.n A4) (hargs:=by (simp only [ma_,mb_,mc_,F] <;> rfl)) (h:=?_);rintro e W ⟨v227,v230,rfl,ho0,ho1,hb⟩;refine ⟨_,rfl,?_⟩;replace S:=S.got2 at42 (atU (d:=Kd.slice 3 (Kd.int .i64))) hb ho0 ho1 (by decide);obtain ⟨At226,ct226,At229,ct229,rfl,rfl,S⟩:=S;clear F hb ho0 ho1;have F:=S.fc
 clear S0;have S0:=(S.nx X).tl.tl.tl;refine ⟨S0,?_⟩
 repeat (refine f0 (h:=?_))
 refine fz S ?_;intro gb232 gb233 W S;simp only [bxs,fbox,ptr,List.map_cons,List.map_nil,List.cons_append,List.nil_append,putF,Act.put,za_,zb_,zc_] at S ⊢;clear F S0;have S0:=S.tl.tl.tl.tl.tl;have F:=S.fc
 refine lk3 (by rfl) (by exact (Eq.refl true)) ?_;(first | refine sb (.agg #[_,_,_]) S sz30 ?_ | refine ro (.agg #[_,_,_]) S sz30 ?_ (ho:=rfl) (hx:=rfl) (hy:=rfl) | refine sb (.agg #[_,_,_]) S sz80 ?_ | refine ro (.agg #[_,_,_]) S sz80 ?_ (ho:=rfl) (hx:=rfl) (hy:=rfl));(clear S F;intro W S;have F:=S.fc)
 refine lk3 (by rfl) (by exact (Eq.refl true)) ?_;(first | refine sb (.agg #[_,_,_]) S sz30 ?_ | refine ro (.agg #[_,_,_]) S sz30 ?_ (ho:=rfl) (hx:=rfl) (hy:=rfl) | refine sb (.agg #[_,_,_]) S sz80 ?_ | refine ro (.agg #[_,_,_]) S sz80 ?_ (ho:=rfl) (hx:=rfl) (hy:=rfl));(clear S F;intro W S;have F:=S.fc)
 repeat ((refine q0 (h:=?_)))
 refine oz ?_
 try clear S0
 go_wp2
 refine rgP S (fun _ S=>(S.ms [1,1,1,1,1,0,0])) [(1,0),(1,1),(2,2),(2,3)] [] (by kernel_rfl) (by kernel_rfl) (fun _ d _ _ _ h=>by cases d <;> exact h) ?_;clear S F;intro W S;have S0:=(S.ms [1,1,1,1,1,0,0]);have F:=S.fc
 repeat ((refine q1 S0 (h:=?_)))
 refine lk2 (by rfl) (by exact (Eq.refl true)) ?_;(first | refine sb (.agg #[_,_,_]) S sz30 ?_ | refine ro (.agg #[_,_,_]) S sz30 ?_ (ho:=rfl) (hx:=rfl) (hy:=rfl) | refine sb (.agg #[_,_,_]) S sz80 ?_ | refine ro (.agg #[_,_,_]) S sz80 ?_ (ho:=rfl) (hx:=rfl) (hy:=rfl));(clear S F;intro W S;have F:=S.fc)
 clear S0;have S0:=(S.ms [1,1,1,1,1,0,0]);refine ⟨S0,?_⟩
 refine lk2 (by rfl) (by exact (Eq.refl true)) ?_;(first | refine sb (.agg #[_,_,_]) S sz30 ?_ | refine ro (.agg #[_,_,_]) S sz30 ?_ (ho:=rfl) (hx:=rfl) (hy:=rfl) | refine sb (.agg #[_,_,_]) S sz80 ?_ | refine ro (.agg #[_,_,_]) S sz80 ?_ (ho:=rfl) (hx:=rfl) (hy:=rfl));(clear S F;intro W S;have F:=S.fc)
 clear S0;have S0:=(S.ms [1,1,1,1,1,0,0]);refine ⟨S0,?_⟩
 refine oz ?_
 try clear S0
 go_wp2
 refine bodyPost_ret (results_cc rfl _ _ gb216 gb217 80 30 #[.int .i64 t221,.int .i64 t222,.int .i64 t223] #[.int .i64 t224,.int .i64 t225,.slice At226 t226.length ct226] (0,0) (0,0) _ _ rfl S.hb Try.underlying80 rfl (by kernel_rfl) rfl S.hb Try.underlying30 rfl (by kernel_rfl)) rfl ?_
 exact ⟨_,(by first | rfl | (simp [e0_,e1_] <;> rfl) | (simp [*,e0_,e1_] <;> rfl)),(by first | exact S.r | exact Kd.R_nil _ _ _ _ _),S.below⟩

/-! ### spec_syEnd: function 142 -/
def spec_syEnd.f (a0_0:Int) (a0_1:Int) (l0_2:List (S42)) (a1_0:Int) (a1_1:Int) (a1_2:Int):Option (Int):=if a1_0 = 1 then (some a1_2) else (if a1_0 = 2 then (some a0_1) else (some (wrap64 (a0_1 + 1))))
theorem spec_syEnd.calls (a0_0:Int) (a0_1:Int) (A0_2:Option Addr) (c0_2:Nat) (l0_2:List (S42)) (a1_0:Int) (a1_1:Int) (a1_2:Int) (r:Int) (w:World) (hr0_2:Kd.C k42 w A0_2 l0_2.length l0_2) (hc0_2:l0_2.length ≤ c0_2) (h:spec_syEnd.f a0_0 a0_1 l0_2 a1_0 a1_1 a1_2 = some r) :
    Calls Try.prog 142 #[.agg #[.int .i64 a0_0,.int .i64 a0_1,.slice A0_2 l0_2.length c0_2],.agg #[.int .i64 a1_0,.int .i64 a1_1,.int .i64 a1_2]] w fun e w'=>e = .returned (.int .i64 r)∧Below w.heap.size w w':=by
 have S:=St.init (w:=w) (dc k42_heap at42 hr0_2 hc0_2 dn)
 clear hr0_2 hc0_2
 have F:=S.fc
 have H:=h;clear h;unfold spec_syEnd.f at H
 replace H:=sp_ H;rcases H with ⟨c3,H⟩ | ⟨c3,H⟩
 · skip
   replace c3:=ceq c3
   obtain rfl:=Option.some.inj H
   go_enter Try.func142,Try.ntmps142
   go_wp2_with (first | ((with_reducible refine gd 2 rfl (L ?_));refine bo 2 (.agg #[_,_,_]) S ?_;clear S F;intro gb234 W S;have F:=S.fc) | ((with_reducible refine gd 3 rfl (L ?_));refine bo 3 (.agg #[_,_,_]) S ?_;clear S F;intro gb235 W S;have F:=S.fc))
   go_ret
   exact ⟨(by first | rfl | (simp [e0_,e1_] <;> rfl) | (simp [*,e0_,e1_] <;> rfl)),S.below⟩
 · skip
   replace c3:=cne c3
   replace H:=sp_ H;rcases H with ⟨c8,H⟩ | ⟨c8,H⟩
   · skip
     replace c8:=ceq c8
     obtain rfl:=Option.some.inj H
     go_enter Try.func142,Try.ntmps142
     go_wp2_with (first | ((with_reducible refine gd 2 rfl (L ?_));refine bo 2 (.agg #[_,_,_]) S ?_;clear S F;intro gb234 W S;have F:=S.fc) | ((with_reducible refine gd 3 rfl (L ?_));refine bo 3 (.agg #[_,_,_]) S ?_;clear S F;intro gb235 W S;have F:=S.fc))
     go_ret
     exact ⟨(by first | rfl | (simp [e0_,e1_] <;> rfl) | (simp [*,e0_,e1_] <;> rfl)),S.below⟩
   · skip
     replace c8:=cne c8
     obtain rfl:=Option.some.inj H
     go_enter Try.func142,Try.ntmps142
     go_wp2_with (first | ((with_reducible refine gd 2 rfl (L ?_));refine bo 2 (.agg #[_,_,_]) S ?_;clear S F;intro gb234 W S;have F:=S.fc) | ((with_reducible refine gd 3 rfl (L ?_));refine bo 3 (.agg #[_,_,_]) S ?_;clear S F;intro gb235 W S;have F:=S.fc))
     go_ret
     exact ⟨(by first | rfl | (simp [e0_,e1_] <;> rfl) | (simp [*,e0_,e1_] <;> rfl)),S.below⟩

/-! ### spec_l1Least: function 156 -/
def spec_l1Least.f (a0:Int) (a1:Int):Option (Int):=if a0 < a1 then (some a0) else (some a1)
theorem spec_l1Least.calls (a0:Int) (a1:Int) (r:Int) (w:World) (h:spec_l1Least.f a0 a1 = some r) :
  Calls Try.prog 156 #[.int .i64 a0,.int .i64 a1] w fun e w'=>e = .returned (.int .i64 r)∧Drawn0 w w':=by
 have H:(if a0 < a1 then (some a0) else (some a1)) = some r:=h;clear h;by_cases c3:a0 < a1
 ·rw [if_pos c3] at H;have c3b0:decide (a0 < a1) = true:=decide_eq_true c3;clear c3;obtain rfl:=Option.some.inj H;go_enter Try.func156,Try.ntmps156;go_wp2;go_ret;exact ⟨by first | rfl | (simp;done) | (simp [*];done),by repeat (first | exact Drawn0.refl _ | apply Drawn0.step)⟩
 ·rw [if_neg c3] at H;have c3b0:decide (a0 < a1) = false:=decide_eq_false c3;clear c3;obtain rfl:=Option.some.inj H;go_enter Try.func156,Try.ntmps156;go_wp2;go_ret;exact ⟨by first | rfl | (simp;done) | (simp [*];done),by repeat (first | exact Drawn0.refl _ | apply Drawn0.step)⟩
end Go.Proofs.Ytnmffpfiichjgaa.F
