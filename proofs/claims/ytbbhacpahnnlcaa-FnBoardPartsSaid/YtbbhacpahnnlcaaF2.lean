-- Printed by a program; checked here.
import Derived.Test.YtbbhacpahnnlcaaF0
import Derived.Test.YtbbhacpahnnlcaaF1
namespace Go.Proofs.Ytbbhacpahnnlcaa.F
open Go.RowKit Go.Proofs.YtbbhacpahnnlcaaV.PrintWords Go.Proofs.YtbbhacpahnnlcaaV.PrintLast Go.Proofs.YtbbhacpahnnlcaaV.PrintMore Go.Proofs.YtbbhacpahnnlcaaV.Sl
attribute [local go_sem] max2_int min2_int max_two min_two max_three min_three max_four min_four ia_opt it_opt
attribute [local go_sem] Try.underlying23 Try.underlying25 Try.underlying27 Try.underlying35 Try.underlying51
set_option maxHeartbeats 8000000
set_option maxRecDepth 100000
set_option linter.unusedVariables false
set_option linter.unusedSimpArgs false

attribute [local go_sem high] eqA27
/-! ### spec_l1Cur_next: function 54 -/
def spec_l1Cur_next.f (s0_0:List Int) (s0_1:Int) (s0_2:Int):Option (Int × Int × Int):=if s0_1 < (s0_0.length:Int) then (if 0 ≤ s0_1 then (if (wrap64 (s0_1 + 1)) ≤ (s0_0.length:Int) then (some (wrap64 (rd s0_0 s0_1),wrap64 (s0_1 + 1),IntKind.u64.wrap ((IntKind.u64.wrap ((IntKind.u64.wrap (s0_2 * 6364136223846793005)) + (IntKind.u64.wrap (wrap64 (rd s0_0 s0_1))))) + 1442695040888963407))) else (some (wrap64 (Go.bits .and .u64 ((IntKind.u64.wrap ((IntKind.u64.wrap ((IntKind.u64.wrap (s0_2 * 6364136223846793005)) + (IntKind.u64.wrap (wrap64 (rd s0_0 s0_1))))) + 1442695040888963407)) / 1099511627776) 255),wrap64 (s0_1 + 1),IntKind.u64.wrap ((IntKind.u64.wrap ((IntKind.u64.wrap (s0_2 * 6364136223846793005)) + (IntKind.u64.wrap (wrap64 (rd s0_0 s0_1))))) + 1442695040888963407)))) else (none)) else (if (wrap64 (s0_1 + 1)) ≤ (s0_0.length:Int) then (some (0,wrap64 (s0_1 + 1),IntKind.u64.wrap ((IntKind.u64.wrap ((IntKind.u64.wrap (s0_2 * 6364136223846793005)) + 0)) + 1442695040888963407))) else (some (wrap64 (Go.bits .and .u64 ((IntKind.u64.wrap ((IntKind.u64.wrap ((IntKind.u64.wrap (s0_2 * 6364136223846793005)) + 0)) + 1442695040888963407)) / 1099511627776) 255),wrap64 (s0_1 + 1),IntKind.u64.wrap ((IntKind.u64.wrap ((IntKind.u64.wrap (s0_2 * 6364136223846793005)) + 0)) + 1442695040888963407))))
theorem spec_l1Cur_next.calls (g:Nat) (s0_0:List Int) (s0_1:Int) (s0_2:Int) (r1:Int) (r2:Int) (r3:Int) (As0_0:Option Addr) (cs0_0:Nat) (w0 w:World) (hI:w.heap[g]? = some (.cells #[.slice As0_0 s0_0.length cs0_0,.int .i64 s0_1,.int .u64 s0_2] 51 (0,0))) (hG:w0.heap.size ≤ g) (hS0_0:Kd.C (Kd.int .u8) w0 As0_0 s0_0.length s0_0) (hB:Below w0.heap.size w0 w) (h:spec_l1Cur_next.f s0_0 s0_1 s0_2 = some (r1,r2,r3)) :
    Calls Try.prog 54 #[.pointer (some ⟨g,0,none⟩)] w fun e w'=>e = .returned (.int .i64 r1)∧w'.heap[g]? = some (.cells #[.slice As0_0 s0_0.length cs0_0,.int .i64 r2,.int .u64 r3] 51 (0,0))∧Below w0.heap.size w0 w'∧Kept w w' (fun k_=>k_ = g):=by
 have S:=St.boxed hB hG hI (dg (Kd.heap_int .u8) (atI .u8) hS0_0 hB hG dn)
 clear hI hB
 have F:=S.fc
 have H:=h;clear h;unfold spec_l1Cur_next.f at H
 replace H:=sp_ H;rcases H with ⟨c2,H⟩ | ⟨c2,H⟩
 · skip
   replace H:=np_ H;obtain ⟨c3,H⟩:=H
   replace H:=sp_ H;rcases H with ⟨c4,H⟩ | ⟨c4,H⟩
   · skip
     simp only [Option.some.injEq,Prod.mk.injEq] at H
     obtain ⟨rfl,rfl,rfl⟩:=H
     go_enter Try.func54,Try.ntmps54
     go_wp2_with (first | ((with_reducible refine gs (t:=3) rfl (L ?_));(first | refine sb (.int _ _) S sz3 ?_ | refine ro (.int _ _) S sz3 ?_ (ho:=rfl) (hx:=rfl) (hy:=rfl));(clear S F;intro W S;have F:=S.fc)) | ((with_reducible refine gs (t:=49) rfl (L ?_));(first | refine sb (.int _ _) S sz49 ?_ | refine ro (.int _ _) S sz49 ?_ (ho:=rfl) (hx:=rfl) (hy:=rfl));(clear S F;intro W S;have F:=S.fc)))
     go_wp2_with (first | ((with_reducible refine gs (t:=3) rfl (L ?_));(first | refine sb (.int _ _) S sz3 ?_ | refine ro (.int _ _) S sz3 ?_ (ho:=rfl) (hx:=rfl) (hy:=rfl));(clear S F;intro W S;have F:=S.fc)) | ((with_reducible refine gs (t:=49) rfl (L ?_));(first | refine sb (.int _ _) S sz49 ?_ | refine ro (.int _ _) S sz49 ?_ (ho:=rfl) (hx:=rfl) (hy:=rfl));(clear S F;intro W S;have F:=S.fc)) | ((refine rq (id:=2) S [(0,0),(0,1),(0,2),(0,4),(0,5),(0,6),(1,3),(1,7),(0,8),(0,9)] [] (h:=?_);clear S F;intro W S;have S0:=S;have F:=S.fc)) | ((refine rq (id:=3) S [(0,0),(0,1),(0,2),(0,4),(0,5),(0,6),(1,3),(1,7),(0,8),(1,9),(0,10),(0,11)] [] (h:=?_);clear S F;intro W S;have S0:=S;have F:=S.fc)) | ((refine rq (id:=6) S [(0,0),(0,1),(0,2),(0,4),(0,5),(0,6),(1,3),(1,7),(0,8),(0,9)] [] (h:=?_);clear S F;intro W S;have S0:=S;have F:=S.fc)) | (refine q0 (h:=?_)) | (refine q1 S0 (h:=?_)) | (refine q0n (h:=?_)) | (refine q1n S0 (h:=?_)) | refine oz ?_)
     go_ret
     exact ⟨(by first | rfl | (simp;done) | first | rfl | (simp [e0_,e1_] <;> rfl) | (simp [*,e0_,e1_] <;> rfl)),(by first | exact S.hb | simpa using S.hb (g:=g)),S.below,S.kept⟩
   · skip
     simp only [Option.some.injEq,Prod.mk.injEq] at H
     obtain ⟨rfl,rfl,rfl⟩:=H
     go_enter Try.func54,Try.ntmps54
     go_wp2_with (first | ((with_reducible refine gs (t:=3) rfl (L ?_));(first | refine sb (.int _ _) S sz3 ?_ | refine ro (.int _ _) S sz3 ?_ (ho:=rfl) (hx:=rfl) (hy:=rfl));(clear S F;intro W S;have F:=S.fc)) | ((with_reducible refine gs (t:=49) rfl (L ?_));(first | refine sb (.int _ _) S sz49 ?_ | refine ro (.int _ _) S sz49 ?_ (ho:=rfl) (hx:=rfl) (hy:=rfl));(clear S F;intro W S;have F:=S.fc)))
     go_wp2_with (first | ((with_reducible refine gs (t:=3) rfl (L ?_));(first | refine sb (.int _ _) S sz3 ?_ | refine ro (.int _ _) S sz3 ?_ (ho:=rfl) (hx:=rfl) (hy:=rfl));(clear S F;intro W S;have F:=S.fc)) | ((with_reducible refine gs (t:=49) rfl (L ?_));(first | refine sb (.int _ _) S sz49 ?_ | refine ro (.int _ _) S sz49 ?_ (ho:=rfl) (hx:=rfl) (hy:=rfl));(clear S F;intro W S;have F:=S.fc)) | ((refine rq (id:=2) S [(0,0),(0,1),(0,2),(0,4),(0,5),(0,6),(1,3),(1,7),(0,8),(0,9)] [] (h:=?_);clear S F;intro W S;have S0:=S;have F:=S.fc)) | ((refine rq (id:=3) S [(0,0),(0,1),(0,2),(0,4),(0,5),(0,6),(1,3),(1,7),(0,8),(1,9),(0,10),(0,11)] [] (h:=?_);clear S F;intro W S;have S0:=S;have F:=S.fc)) | ((refine rq (id:=6) S [(0,0),(0,1),(0,2),(0,4),(0,5),(0,6),(1,3),(1,7),(0,8),(0,9)] [] (h:=?_);clear S F;intro W S;have S0:=S;have F:=S.fc)) | (refine q0 (h:=?_)) | (refine q1 S0 (h:=?_)) | (refine q0n (h:=?_)) | (refine q1n S0 (h:=?_)) | refine oz ?_)
     go_ret
     exact ⟨(by first | rfl | (simp;done) | first | rfl | (simp [e0_,e1_] <;> rfl) | (simp [*,e0_,e1_] <;> rfl)),(by first | exact S.hb | simpa using S.hb (g:=g)),S.below,S.kept⟩
 · skip
   replace H:=sp_ H;rcases H with ⟨c7,H⟩ | ⟨c7,H⟩
   · skip
     simp only [Option.some.injEq,Prod.mk.injEq] at H
     obtain ⟨rfl,rfl,rfl⟩:=H
     go_enter Try.func54,Try.ntmps54
     go_wp2_with (first | ((with_reducible refine gs (t:=3) rfl (L ?_));(first | refine sb (.int _ _) S sz3 ?_ | refine ro (.int _ _) S sz3 ?_ (ho:=rfl) (hx:=rfl) (hy:=rfl));(clear S F;intro W S;have F:=S.fc)) | ((with_reducible refine gs (t:=49) rfl (L ?_));(first | refine sb (.int _ _) S sz49 ?_ | refine ro (.int _ _) S sz49 ?_ (ho:=rfl) (hx:=rfl) (hy:=rfl));(clear S F;intro W S;have F:=S.fc)))
     go_wp2_with (first | ((with_reducible refine gs (t:=3) rfl (L ?_));(first | refine sb (.int _ _) S sz3 ?_ | refine ro (.int _ _) S sz3 ?_ (ho:=rfl) (hx:=rfl) (hy:=rfl));(clear S F;intro W S;have F:=S.fc)) | ((with_reducible refine gs (t:=49) rfl (L ?_));(first | refine sb (.int _ _) S sz49 ?_ | refine ro (.int _ _) S sz49 ?_ (ho:=rfl) (hx:=rfl) (hy:=rfl));(clear S F;intro W S;have F:=S.fc)) | ((refine rq (id:=2) S [(0,0),(0,1),(0,2),(0,4),(0,5),(0,6),(1,3),(1,7),(0,8),(0,9)] [] (h:=?_);clear S F;intro W S;have S0:=S;have F:=S.fc)) | ((refine rq (id:=3) S [(0,0),(0,1),(0,2),(0,4),(0,5),(0,6),(1,3),(1,7),(0,8),(1,9),(0,10),(0,11)] [] (h:=?_);clear S F;intro W S;have S0:=S;have F:=S.fc)) | ((refine rq (id:=6) S [(0,0),(0,1),(0,2),(0,4),(0,5),(0,6),(1,3),(1,7),(0,8),(0,9)] [] (h:=?_);clear S F;intro W S;have S0:=S;have F:=S.fc)) | (refine q0 (h:=?_)) | (refine q1 S0 (h:=?_)) | (refine q0n (h:=?_)) | (refine q1n S0 (h:=?_)) | refine oz ?_)
     go_ret
     exact ⟨(by first | rfl | (simp;done) | first | rfl | (simp [e0_,e1_] <;> rfl) | (simp [*,e0_,e1_] <;> rfl)),(by first | exact S.hb | simpa using S.hb (g:=g)),S.below,S.kept⟩
   · skip
     simp only [Option.some.injEq,Prod.mk.injEq] at H
     obtain ⟨rfl,rfl,rfl⟩:=H
     go_enter Try.func54,Try.ntmps54
     go_wp2_with (first | ((with_reducible refine gs (t:=3) rfl (L ?_));(first | refine sb (.int _ _) S sz3 ?_ | refine ro (.int _ _) S sz3 ?_ (ho:=rfl) (hx:=rfl) (hy:=rfl));(clear S F;intro W S;have F:=S.fc)) | ((with_reducible refine gs (t:=49) rfl (L ?_));(first | refine sb (.int _ _) S sz49 ?_ | refine ro (.int _ _) S sz49 ?_ (ho:=rfl) (hx:=rfl) (hy:=rfl));(clear S F;intro W S;have F:=S.fc)))
     go_wp2_with (first | ((with_reducible refine gs (t:=3) rfl (L ?_));(first | refine sb (.int _ _) S sz3 ?_ | refine ro (.int _ _) S sz3 ?_ (ho:=rfl) (hx:=rfl) (hy:=rfl));(clear S F;intro W S;have F:=S.fc)) | ((with_reducible refine gs (t:=49) rfl (L ?_));(first | refine sb (.int _ _) S sz49 ?_ | refine ro (.int _ _) S sz49 ?_ (ho:=rfl) (hx:=rfl) (hy:=rfl));(clear S F;intro W S;have F:=S.fc)) | ((refine rq (id:=2) S [(0,0),(0,1),(0,2),(0,4),(0,5),(0,6),(1,3),(1,7),(0,8),(0,9)] [] (h:=?_);clear S F;intro W S;have S0:=S;have F:=S.fc)) | ((refine rq (id:=3) S [(0,0),(0,1),(0,2),(0,4),(0,5),(0,6),(1,3),(1,7),(0,8),(1,9),(0,10),(0,11)] [] (h:=?_);clear S F;intro W S;have S0:=S;have F:=S.fc)) | ((refine rq (id:=6) S [(0,0),(0,1),(0,2),(0,4),(0,5),(0,6),(1,3),(1,7),(0,8),(0,9)] [] (h:=?_);clear S F;intro W S;have S0:=S;have F:=S.fc)) | (refine q0 (h:=?_)) | (refine q1 S0 (h:=?_)) | (refine q0n (h:=?_)) | (refine q1n S0 (h:=?_)) | refine oz ?_)
     go_ret
     exact ⟨(by first | rfl | (simp;done) | first | rfl | (simp [e0_,e1_] <;> rfl) | (simp [*,e0_,e1_] <;> rfl)),(by first | exact S.hb | simpa using S.hb (g:=g)),S.below,S.kept⟩

/-! ### spec_l1Cur_pick: function 36 -/
def spec_l1Cur_pick.f (s0_0:List Int) (s0_1:Int) (s0_2:Int) (a1:Int):Option (Int × Int × Int):=if a1 ≤ 1 then (some (0,s0_1,s0_2)) else ((spec_l1Cur_next.f s0_0 s0_1 s0_2).bind fun bt102=>(if a1 > 200 then ((spec_l1Cur_next.f s0_0 bt102.2.1 bt102.2.2).bind fun bt105=>(if a1 = 0 then (none) else (some (Int.tmod (wrap64 ((wrap64 (bt102.1 * 256)) + bt105.1)) a1,bt105.2.1,bt105.2.2)))) else (if a1 = 0 then (none) else (some (Int.tmod bt102.1 a1,bt102.2.1,bt102.2.2)))))
theorem spec_l1Cur_pick.calls (g:Nat) (s0_0:List Int) (s0_1:Int) (s0_2:Int) (a1:Int) (r1:Int) (r2:Int) (r3:Int) (As0_0:Option Addr) (cs0_0:Nat) (w0 w:World) (hI:w.heap[g]? = some (.cells #[.slice As0_0 s0_0.length cs0_0,.int .i64 s0_1,.int .u64 s0_2] 51 (0,0))) (hG:w0.heap.size ≤ g) (hS0_0:Kd.C (Kd.int .u8) w0 As0_0 s0_0.length s0_0) (hB:Below w0.heap.size w0 w) (h:spec_l1Cur_pick.f s0_0 s0_1 s0_2 a1 = some (r1,r2,r3)) :
    Calls Try.prog 36 #[.pointer (some ⟨g,0,none⟩),.int .i64 a1] w fun e w'=>e = .returned (.int .i64 r1)∧w'.heap[g]? = some (.cells #[.slice As0_0 s0_0.length cs0_0,.int .i64 r2,.int .u64 r3] 51 (0,0))∧Below w0.heap.size w0 w'∧Kept w w' (fun k_=>k_ = g):=by
 have S:=St.boxed hB hG hI (dg (Kd.heap_int .u8) (atI .u8) hS0_0 hB hG dn)
 clear hI hB
 have F:=S.fc
 have H:=h;clear h;unfold spec_l1Cur_pick.f at H
 replace H:=sp_ H;rcases H with ⟨c3,H⟩ | ⟨c3,H⟩
 · skip
   simp only [Option.some.injEq,Prod.mk.injEq] at H
   obtain ⟨rfl,rfl,rfl⟩:=H
   go_enter Try.func36,Try.ntmps36
   go_wp2
   go_ret
   exact ⟨(by first | rfl | (simp;done) | first | rfl | (simp [e0_,e1_] <;> rfl) | (simp [*,e0_,e1_] <;> rfl)),(by first | exact S.hb | simpa using S.hb (g:=g)),S.below,S.kept⟩
 · skip
   replace H:=Option.bind_eq_some_iff.mp H;obtain ⟨⟨t102,t103,t104⟩,A4,H⟩:=H;(try dsimp only at H)
   replace H:=sp_ H;rcases H with ⟨c5,H⟩ | ⟨c5,H⟩
   · skip
     replace H:=Option.bind_eq_some_iff.mp H;obtain ⟨⟨t105,t106,t107⟩,A6,H⟩:=H;(try dsimp only at H)
     replace H:=nn_ H;obtain ⟨c7,H⟩:=H
     replace c7:=cne c7
     simp only [Option.some.injEq,Prod.mk.injEq] at H
     obtain ⟨rfl,rfl,rfl⟩:=H
     go_enter Try.func36,Try.ntmps36
     go_wp2_with (first | ((with_reducible refine gate_callee (f:=54) rfl (L ?_));refine cl (some 9) Try.func54 (spec_l1Cur_next.calls g _ _ _ _ _ _ _ _ _ _ S.hb (S.hge g) hS0_0 S.below A4) (hargs:=by (simp only [ma_,mb_,mc_,F] <;> rfl)) (h:=?_);rintro e W ⟨rfl,hi,hb,hk⟩;refine ⟨_,rfl,?_⟩;obtain ⟨W_,hs_,hm_,S⟩:=S.mid g hi hb hk;replace S:=S.go hm_;clear F hi hb hk hs_ hm_ ;have F:=S.fc) | ((with_reducible refine gate_callee (f:=54) rfl (L ?_));refine cl (some 15) Try.func54 (spec_l1Cur_next.calls g _ _ _ _ _ _ _ _ _ _ S.hb (S.hge g) hS0_0 S.below A6) (hargs:=by (simp only [ma_,mb_,mc_,F] <;> rfl)) (h:=?_);rintro e W ⟨rfl,hi,hb,hk⟩;refine ⟨_,rfl,?_⟩;obtain ⟨W_,hs_,hm_,S⟩:=S.mid g hi hb hk;replace S:=S.go hm_;clear F hi hb hk hs_ hm_ ;have F:=S.fc))
     go_ret
     exact ⟨(by first | rfl | (simp;done) | first | rfl | (simp [e0_,e1_] <;> rfl) | (simp [*,e0_,e1_] <;> rfl)),(by first | exact S.hb | simpa using S.hb (g:=g)),S.below,S.kept⟩
   · skip
     replace H:=nn_ H;obtain ⟨c10,H⟩:=H
     replace c10:=cne c10
     simp only [Option.some.injEq,Prod.mk.injEq] at H
     obtain ⟨rfl,rfl,rfl⟩:=H
     go_enter Try.func36,Try.ntmps36
     go_wp2_with (first | ((with_reducible refine gate_callee (f:=54) rfl (L ?_));refine cl (some 9) Try.func54 (spec_l1Cur_next.calls g _ _ _ _ _ _ _ _ _ _ S.hb (S.hge g) hS0_0 S.below A4) (hargs:=by (simp only [ma_,mb_,mc_,F] <;> rfl)) (h:=?_);rintro e W ⟨rfl,hi,hb,hk⟩;refine ⟨_,rfl,?_⟩;obtain ⟨W_,hs_,hm_,S⟩:=S.mid g hi hb hk;replace S:=S.go hm_;clear F hi hb hk hs_ hm_ ;have F:=S.fc))
     go_ret
     exact ⟨(by first | rfl | (simp;done) | first | rfl | (simp [e0_,e1_] <;> rfl) | (simp [*,e0_,e1_] <;> rfl)),(by first | exact S.hb | simpa using S.hb (g:=g)),S.below,S.kept⟩

/-! ### spec_l1Cur_among: function 47 -/
def spec_l1Cur_among.f (s0_0:List Int) (s0_1:Int) (s0_2:Int) (l1:List Int):Option (Int × Int × Int):=(spec_l1Cur_pick.f s0_0 s0_1 s0_2 (l1.length:Int)).bind fun bt108=>(if 0 ≤ bt108.1 then (if bt108.1 < (l1.length:Int) then (some (rd l1 bt108.1,bt108.2.1,bt108.2.2)) else (none)) else (none))
theorem spec_l1Cur_among.calls (g:Nat) (s0_0:List Int) (s0_1:Int) (s0_2:Int) (A1:Option Addr) (c1:Nat) (l1:List Int) (r1:Int) (r2:Int) (r3:Int) (As0_0:Option Addr) (cs0_0:Nat) (w0 w:World) (hI:w.heap[g]? = some (.cells #[.slice As0_0 s0_0.length cs0_0,.int .i64 s0_1,.int .u64 s0_2] 51 (0,0))) (hG:w0.heap.size ≤ g) (hS0_0:Kd.C (Kd.int .u8) w0 As0_0 s0_0.length s0_0) (hB:Below w0.heap.size w0 w) (hr1:∀ W_,Kept w W_ (fun k_=>k_ = g)→Kd.C (Kd.int .i64) W_ A1 l1.length l1) (hc1:l1.length ≤ c1) (h:spec_l1Cur_among.f s0_0 s0_1 s0_2 l1 = some (r1,r2,r3)) :
    Calls Try.prog 47 #[.pointer (some ⟨g,0,none⟩),.slice A1 l1.length c1] w fun e w'=>e = .returned (.int .i64 r1)∧w'.heap[g]? = some (.cells #[.slice As0_0 s0_0.length cs0_0,.int .i64 r2,.int .u64 r3] 51 (0,0))∧Below w0.heap.size w0 w'∧Kept w w' (fun k_=>k_ = g):=by
 have S:=St.boxed hB hG hI (dg (Kd.heap_int .u8) (atI .u8) hS0_0 hB hG (dk (atI .i64) hr1 hc1 dn))
 clear hI hB hr1 hc1
 have F:=S.fc
 have H:=h;clear h;unfold spec_l1Cur_among.f at H
 replace H:=Option.bind_eq_some_iff.mp H;obtain ⟨⟨t108,t109,t110⟩,A3,H⟩:=H;(try dsimp only at H)
 replace H:=np_ H;obtain ⟨c4,H⟩:=H
 replace H:=np_ H;obtain ⟨c5,H⟩:=H
 simp only [Option.some.injEq,Prod.mk.injEq] at H
 obtain ⟨rfl,rfl,rfl⟩:=H
 go_enter Try.func47,Try.ntmps47
 go_wp2_with (first | ((with_reducible refine gate_callee (f:=36) rfl (L ?_));refine cl (some 9) Try.func36 (spec_l1Cur_pick.calls g _ _ _ _ _ _ _ _ _ _ _ S.hb (S.hge g) hS0_0 S.below A3) (hargs:=by (simp only [ma_,mb_,mc_,F] <;> rfl)) (h:=?_);rintro e W ⟨rfl,hi,hb,hk⟩;refine ⟨_,rfl,?_⟩;obtain ⟨W_,hs_,hm_,S⟩:=S.mid g hi hb hk;replace S:=S.go hm_;clear F hi hb hk hs_ hm_ ;have F:=S.fc))
 go_ret
 exact ⟨(by first | rfl | (simp;done) | first | rfl | (simp [e0_,e1_] <;> rfl) | (simp [*,e0_,e1_] <;> rfl)),(by first | exact S.hb | simpa using S.hb (g:=g)),S.below,S.kept⟩

/-! ### spec_paTurning: function 53 -/
def spec_paTurning.f (a0_0:Int) (a0_1:Int):Option (Bool):=if a0_0 = 3 then (some true) else (some (a0_0 == 6))
theorem spec_paTurning.calls (a0_0:Int) (a0_1:Int) (r:Bool) (w:World) (h:spec_paTurning.f a0_0 a0_1 = some r) :
    Calls Try.prog 53 #[.agg #[.int .i64 a0_0,.int .i64 a0_1]] w fun e w'=>e = .returned (.bool r)∧Below w.heap.size w w':=by
 have S:=St.init (w:=w) dn
 have F:=S.fc
 have H:=h;clear h;unfold spec_paTurning.f at H
 replace H:=sp_ H;rcases H with ⟨c2,H⟩ | ⟨c2,H⟩
 · skip
   replace c2:=ceq c2
   obtain rfl:=Option.some.inj H
   go_enter Try.func53,Try.ntmps53
   go_wp2_with (first | ((with_reducible refine gd 1 rfl (L ?_));refine bo 1 (.agg #[_,_]) S ?_;clear S F;intro gb112 W S;have F:=S.fc))
   go_ret
   exact ⟨(by first | rfl | (simp [e0_,e1_] <;> rfl) | (simp [*,e0_,e1_] <;> rfl)),S.below⟩
 · skip
   replace c2:=cne c2
   obtain rfl:=Option.some.inj H
   go_enter Try.func53,Try.ntmps53
   go_wp2_with (first | ((with_reducible refine gd 1 rfl (L ?_));refine bo 1 (.agg #[_,_]) S ?_;clear S F;intro gb112 W S;have F:=S.fc))
   go_ret
   exact ⟨(by first | rfl | (simp [e0_,e1_] <;> rfl) | (simp [*,e0_,e1_] <;> rfl)),S.below⟩

/-! ### spec_paAll: function 55 -/
def spec_paAll.l0:Nat→List (S27)→Int→Option ((List (S27)))
  | 0,_,_=>none
  | k + 1,x1,x2=>if x2 ≤ 7 then (if x1.length < 8796093022208 then ((some (x1 ++ [(⟨x2,0⟩:S27)]:List (S27))).bind fun y113=>((spec_paTurning.f x2 1).bind fun t117=>(if t117 = true then (if y113.length < 8796093022208 then (spec_paAll.l0 k (y113 ++ [(⟨x2,1⟩:S27)]) (wrap64 (x2 + 1))) else (none)) else (spec_paAll.l0 k y113 (wrap64 (x2 + 1)))))) else (none)) else (some x1)
def spec_paAll.f (k:Nat)  : Option ((List (S27))):=spec_paAll.l0 k ([]:List (S27)) 0
theorem spec_paAll.calls (k:Nat)  (r:List (S27)) (w:World) (h:spec_paAll.f k  = some r) :
    Calls Try.prog 55 #[] w fun e w'=>∃ v0_:Value,e = .returned (v0_)∧Kd.R k27 27 w' w.heap.size (fun _=>True) v0_ r∧Below w.heap.size w w':=by
 have S:=St.init (w:=w) dn
 have F:=S.fc
 have H:=h;clear h;unfold spec_paAll.f at H
 go_enter Try.func55,Try.ntmps55
 go_wp2_with (first | ((with_reducible refine gs (t:=27) rfl (L ?_));(first | refine sb (.agg #[_,_]) S sz27 ?_ | refine ro (.agg #[_,_]) S sz27 ?_ (ho:=rfl) (hx:=rfl) (hy:=rfl));(clear S F;intro W S;have F:=S.fc)))
 go_loopg [1,2] k (fun kq v1 v2 w'=>∃ (x1_1:List (S27)) (x2_1:Int) (Ax1_1:Option Addr) (cx1_1:Nat),v2 = .int .i64 x2_1∧v1 = .slice Ax1_1 x1_1.length cx1_1∧spec_paAll.l0 kq x1_1 x2_1 = some r∧kq ≤ k∧St w w (fun _=>False) [] w'  [row at27 27 Ax1_1 x1_1.length cx1_1 x1_1])
 case atStart=>exact ⟨_,0,_,_,(by first | rfl | (simp;done) | (simp [*];done) | (rw [w6_ (by omega) (by omega)])),rfl,H,Nat.le_refl _,(S.nl (e:=27) at27)⟩
 case round =>
  clear H S F
  obtain ⟨x1_1,x2_1,Ax1_1,cx1_1,rfl,rfl,HA,HK1,S⟩:=hrel
  have F:=S.fc
  cases gk with
  | zero=>exact absurd HA (by simp [spec_paAll.l0])
  | succ k1 =>
   have H:=HA;clear HA;simp only [spec_paAll.l0,F] at H
   replace H:=sp_ H;rcases H with ⟨c1,H⟩ | ⟨c1,H⟩
   · skip
     replace H:=np_ H;obtain ⟨c2,H⟩:=H
     (first | (with_reducible replace H:=ob_ H;obtain ⟨y113,hy113,H⟩:=H;(try dsimp only at H)) | (obtain ⟨y113,hy113⟩:∃ y_:List (S27),y_ = (x1_1 ++ [(⟨x2_1,0⟩:S27)]):=⟨_,rfl⟩;(try rw [← hy113] at H);(try simp only [Option.bind_some] at H)));have Ny113:=Aside0.mk hy113;clear hy113
     replace H:=Option.bind_eq_some_iff.mp H;obtain ⟨t117,A3,H⟩:=H;(try dsimp only at H)
     replace H:=sp_ H;rcases H with ⟨c4,H⟩ | ⟨c4,H⟩
     · skip
       subst c4
       replace H:=np_ H;obtain ⟨c5,H⟩:=H
       (first | (with_reducible replace H:=ob_ H;obtain ⟨y118,hy118,H⟩:=H;(try dsimp only at H)) | (obtain ⟨y118,hy118⟩:∃ y_:List (S27),y_ = (y113 ++ [(⟨x2_1,1⟩:S27)]):=⟨_,rfl⟩;(try rw [← hy118] at H);(try simp only [Option.bind_some] at H)));have Ny118:=Aside0.mk hy118;clear hy118
       go_wp2_with (first | ((with_reducible refine gd 12 rfl (L ?_));refine apa (A:=Ax1_1) 12 S Try.underlying23 info27 ?_ (ho:=rfl) (hs:=rfl) (hx:=rfl);clear S F;intro Ay113 cy113 W S;(try rw [← Ny113.out] at S ⊢);(try rw [← Ny118.out] at S ⊢);have F:=S.fc) | ((with_reducible refine gd 3 rfl (L ?_));refine al 3 S zi27 ?_;clear S F;intro gb116 W S;have F:=S.fc) | ((with_reducible refine gate_callee (f:=53) rfl (L ?_));refine cl (some 16) Try.func53 (spec_paTurning.calls _ _ _ _ A3) (hargs:=by (simp only [ma_,mb_,mc_,F] <;> rfl)) (h:=?_);rintro e W ⟨rfl,hb⟩;refine ⟨_,rfl,?_⟩;replace S:=S.go hb;clear F hb;have F:=S.fc) | ((with_reducible refine gd 20 rfl (L ?_));refine apa (A:=Ay113) 20 S Try.underlying23 info27 ?_ (ho:=rfl) (hs:=rfl) (hx:=rfl);clear S F;intro Ay118 cy118 W S;(try rw [← Ny113.out] at S ⊢);(try rw [← Ny118.out] at S ⊢);have F:=S.fc) | ((with_reducible refine gs (t:=27) rfl (L ?_));(first | refine sb (.agg #[_,_]) S sz27 ?_ | refine ro (.agg #[_,_]) S sz27 ?_ (ho:=rfl) (hx:=rfl) (hy:=rfl));clear S F;intro W S;(try rw [← Ny113.out] at S);(try rw [← Ny118.out] at S);have F:=S.fc))
       go_roundg k1
       case measure=>omega
       case rel=>exact ⟨y118,(wrap64 (x2_1 + 1)),_,_,(by first | rfl | (simp;done) | (simp [*];done) | (rw [w6_ (by omega) (by omega)])),rfl,H,(by first | omega | exact Nat.le_refl _),S.tl⟩
     · skip
       replace c4:=cbf c4;subst c4
       go_wp2_with (first | ((with_reducible refine gd 12 rfl (L ?_));refine apa (A:=Ax1_1) 12 S Try.underlying23 info27 ?_ (ho:=rfl) (hs:=rfl) (hx:=rfl);clear S F;intro Ay113 cy113 W S;(try rw [← Ny113.out] at S ⊢);have F:=S.fc) | ((with_reducible refine gd 3 rfl (L ?_));refine al 3 S zi27 ?_;clear S F;intro gb116 W S;have F:=S.fc) | ((with_reducible refine gate_callee (f:=53) rfl (L ?_));refine cl (some 16) Try.func53 (spec_paTurning.calls _ _ _ _ A3) (hargs:=by (simp only [ma_,mb_,mc_,F] <;> rfl)) (h:=?_);rintro e W ⟨rfl,hb⟩;refine ⟨_,rfl,?_⟩;replace S:=S.go hb;clear F hb;have F:=S.fc) | ((with_reducible refine gs (t:=27) rfl (L ?_));(first | refine sb (.agg #[_,_]) S sz27 ?_ | refine ro (.agg #[_,_]) S sz27 ?_ (ho:=rfl) (hx:=rfl) (hy:=rfl));clear S F;intro W S;(try rw [← Ny113.out] at S);have F:=S.fc))
       go_roundg k1
       case measure=>omega
       case rel=>exact ⟨y113,(wrap64 (x2_1 + 1)),_,_,(by first | rfl | (simp;done) | (simp [*];done) | (rw [w6_ (by omega) (by omega)])),rfl,H,(by first | omega | exact Nat.le_refl _),S.tl⟩
   · skip
     obtain rfl:=Option.some.inj H
     go_wp2_with (first | ((with_reducible refine gs (t:=27) rfl (L ?_));(first | refine sb (.agg #[_,_]) S sz27 ?_ | refine ro (.agg #[_,_]) S sz27 ?_ (ho:=rfl) (hx:=rfl) (hy:=rfl));(clear S F;intro W S;have F:=S.fc)))
     go_ret
     exact ⟨_,(by first | rfl | (simp [e0_,e1_] <;> rfl) | (simp [*,e0_,e1_] <;> rfl)),(by first | exact S.r | exact Kd.R_nil _ _ _ _ _),S.below⟩

/-! ### spec_l1Cur_cell: function 52 -/
def spec_l1Cur_cell.f (k:Nat) (s0_0:List Int) (s0_1:Int) (s0_2:Int):Option (Int × Int × Int × Int):=(spec_paAll.f k).bind fun t122=>((spec_l1Cur_pick.f s0_0 s0_1 s0_2 (t122.length:Int)).bind fun bt125=>(if 0 ≤ bt125.1 then (if bt125.1 < (t122.length:Int) then (some ((rd_T27 t122 bt125.1).f0,(rd_T27 t122 bt125.1).f1,bt125.2.1,bt125.2.2)) else (none)) else (none)))
theorem spec_l1Cur_cell.calls (k:Nat) (g:Nat) (s0_0:List Int) (s0_1:Int) (s0_2:Int) (r1:Int) (r2:Int) (r3:Int) (r4:Int) (As0_0:Option Addr) (cs0_0:Nat) (w0 w:World) (hI:w.heap[g]? = some (.cells #[.slice As0_0 s0_0.length cs0_0,.int .i64 s0_1,.int .u64 s0_2] 51 (0,0))) (hG:w0.heap.size ≤ g) (hS0_0:Kd.C (Kd.int .u8) w0 As0_0 s0_0.length s0_0) (hB:Below w0.heap.size w0 w) (h:spec_l1Cur_cell.f k s0_0 s0_1 s0_2 = some (r1,r2,r3,r4)) :
    Calls Try.prog 52 #[.pointer (some ⟨g,0,none⟩)] w fun e w'=>e = .returned (.agg #[.int .i64 r1,.int .i64 r2])∧w'.heap[g]? = some (.cells #[.slice As0_0 s0_0.length cs0_0,.int .i64 r3,.int .u64 r4] 51 (0,0))∧Below w0.heap.size w0 w'∧Kept w w' (fun k_=>k_ = g):=by
 have S:=St.boxed hB hG hI (dg (Kd.heap_int .u8) (atI .u8) hS0_0 hB hG dn)
 clear hI hB
 have F:=S.fc
 have H:=h;clear h;unfold spec_l1Cur_cell.f at H
 replace H:=Option.bind_eq_some_iff.mp H;obtain ⟨t122,A2,H⟩:=H;(try dsimp only at H)
 replace H:=Option.bind_eq_some_iff.mp H;obtain ⟨⟨t125,t126,t127⟩,A3,H⟩:=H;(try dsimp only at H)
 replace H:=np_ H;obtain ⟨c4,H⟩:=H
 replace H:=np_ H;obtain ⟨c5,H⟩:=H
 simp only [Option.some.injEq,Prod.mk.injEq] at H
 obtain ⟨rfl,rfl,rfl,rfl⟩:=H
 go_enter Try.func52,Try.ntmps52
 go_wp2_with (first | ((with_reducible refine gd 2 rfl (L ?_));refine al 2 S zi27 ?_;clear S F;intro gb121 W S;have F:=S.fc) | ((with_reducible refine gate_callee (f:=55) rfl (L ?_));refine cl (some 4) Try.func55 (spec_paAll.calls _ _ _ A2) (hargs:=by (simp only [ma_,mb_,mc_,F] <;> rfl)) (h:=?_);rintro e W ⟨v123,rfl,ho0,hb⟩;refine ⟨_,rfl,?_⟩;replace S:=S.got at27 hb ho0;obtain ⟨At122,ct122,rfl,S⟩:=S;clear F hb ho0;have F:=S.fc) | ((with_reducible refine gate_callee (f:=36) rfl (L ?_));refine cl (some 9) Try.func36 (spec_l1Cur_pick.calls g _ _ _ _ _ _ _ _ _ _ _ S.hb (S.hge g) hS0_0 S.below A3) (hargs:=by (simp only [ma_,mb_,mc_,F] <;> rfl)) (h:=?_);rintro e W ⟨rfl,hi,hb,hk⟩;refine ⟨_,rfl,?_⟩;obtain ⟨W_,hs_,hm_,S⟩:=S.mid g hi hb hk;replace S:=S.go hm_;clear F hi hb hk hs_ hm_ ;have F:=S.fc) | ((with_reducible refine gs (t:=27) rfl (L ?_));(first | refine sb (.agg #[_,_]) S sz27 ?_ | refine ro (.agg #[_,_]) S sz27 ?_ (ho:=rfl) (hx:=rfl) (hy:=rfl));(clear S F;intro W S;have F:=S.fc)))
 refine bodyPost_ret (results_cell_row rfl _ _ gb121 27 #[.int .i64 ((rd_T27 t122 t125).f0),.int .i64 ((rd_T27 t122 t125).f1)] (0,0) _ rfl S.hb Try.underlying27 rfl (by kernel_rfl)) rfl ?_
 exact ⟨(by first | rfl | (simp;done) | first | rfl | (simp [e0_,e1_] <;> rfl) | (simp [*,e0_,e1_] <;> rfl)),(by first | exact S.hb | simpa using S.hb (g:=g)),S.below,S.kept⟩

/-! ### spec_l1Cur_anyCell: function 29 -/
def spec_l1Cur_anyCell.f (k:Nat) (s0_0:List Int) (s0_1:Int) (s0_2:Int):Option (Int × Int × Int × Int):=(spec_l1Cur_cell.f k s0_0 s0_1 s0_2).bind fun bt130=>((spec_l1Cur_pick.f s0_0 bt130.2.2.1 bt130.2.2.2 20).bind fun bt135=>(if bt135.1 = 0 then ((spec_l1Cur_among.f s0_0 bt135.2.1 bt135.2.2 (([(-1),8]:List Int))).bind fun bt141=>(some (bt141.1,bt130.2.1,bt141.2.1,bt141.2.2))) else (if bt135.1 = 1 then ((spec_l1Cur_among.f s0_0 bt135.2.1 bt135.2.2 (([(-1),1,2]:List Int))).bind fun bt147=>(some (bt130.1,bt147.1,bt147.2.1,bt147.2.2))) else (some (bt130.1,bt130.2.1,bt135.2.1,bt135.2.2)))))
theorem spec_l1Cur_anyCell.calls (k:Nat) (g:Nat) (s0_0:List Int) (s0_1:Int) (s0_2:Int) (r1:Int) (r2:Int) (r3:Int) (r4:Int) (As0_0:Option Addr) (cs0_0:Nat) (w0 w:World) (hI:w.heap[g]? = some (.cells #[.slice As0_0 s0_0.length cs0_0,.int .i64 s0_1,.int .u64 s0_2] 51 (0,0))) (hG:w0.heap.size ≤ g) (hS0_0:Kd.C (Kd.int .u8) w0 As0_0 s0_0.length s0_0) (hB:Below w0.heap.size w0 w) (h:spec_l1Cur_anyCell.f k s0_0 s0_1 s0_2 = some (r1,r2,r3,r4)) :
    Calls Try.prog 29 #[.pointer (some ⟨g,0,none⟩)] w fun e w'=>e = .returned (.agg #[.int .i64 r1,.int .i64 r2])∧w'.heap[g]? = some (.cells #[.slice As0_0 s0_0.length cs0_0,.int .i64 r3,.int .u64 r4] 51 (0,0))∧Below w0.heap.size w0 w'∧Kept w w' (fun k_=>k_ = g):=by
 have S:=St.boxed hB hG hI (dg (Kd.heap_int .u8) (atI .u8) hS0_0 hB hG dn)
 clear hI hB
 have F:=S.fc
 have H:=h;clear h;unfold spec_l1Cur_anyCell.f at H
 replace H:=Option.bind_eq_some_iff.mp H;obtain ⟨⟨t130,t131,t132,t133⟩,A2,H⟩:=H;(try dsimp only at H)
 replace H:=Option.bind_eq_some_iff.mp H;obtain ⟨⟨t135,t136,t137⟩,A3,H⟩:=H;(try dsimp only at H)
 replace H:=sp_ H;rcases H with ⟨c4,H⟩ | ⟨c4,H⟩
 · skip
   replace c4:=ceq c4
   (first | (with_reducible replace H:=ob_ H;obtain ⟨y138,hy138,H⟩:=H;(try dsimp only at H)) | (obtain ⟨y138,hy138⟩:∃ y_:List Int,y_ = (([(-1),8]:List Int)):=⟨_,rfl⟩;(try rw [← hy138] at H);(try simp only [Option.bind_some] at H)));have Ny138:=Aside0.mk hy138;clear hy138
   replace H:=Option.bind_eq_some_iff.mp H;obtain ⟨⟨t141,t142,t143⟩,A5,H⟩:=H;(try dsimp only at H)
   simp only [Option.some.injEq,Prod.mk.injEq] at H
   obtain ⟨rfl,rfl,rfl,rfl⟩:=H
   go_enter Try.func29,Try.ntmps29
   go_wp2_with (first | ((with_reducible refine gd 2 rfl (L ?_));refine al 2 S zi27 ?_;clear S F;intro gb129 W S;have F:=S.fc) | ((with_reducible refine gate_callee (f:=52) rfl (L ?_));refine cl (some 5) Try.func52 (spec_l1Cur_cell.calls _ g _ _ _ _ _ _ _ _ _ _ _ S.hb (S.hge g) hS0_0 S.below A2) (hargs:=by (simp only [ma_,mb_,mc_,F] <;> rfl)) (h:=?_);rintro e W ⟨rfl,hi,hb,hk⟩;refine ⟨_,rfl,?_⟩;obtain ⟨W_,hs_,hm_,S⟩:=S.mid g hi hb hk;replace S:=S.go hm_;clear F hi hb hk hs_ hm_ ;(try rw [← Ny138.out] at S);have F:=S.fc) | ((with_reducible refine gd 3 rfl (L ?_));refine al 3 S zi27 ?_;clear S F;intro gb134 W S;have F:=S.fc) | ((with_reducible refine gate_callee (f:=36) rfl (L ?_));refine cl (some 7) Try.func36 (spec_l1Cur_pick.calls g _ _ _ _ _ _ _ _ _ _ _ S.hb (S.hge g) hS0_0 S.below A3) (hargs:=by (simp only [ma_,mb_,mc_,F] <;> rfl)) (h:=?_);rintro e W ⟨rfl,hi,hb,hk⟩;refine ⟨_,rfl,?_⟩;obtain ⟨W_,hs_,hm_,S⟩:=S.mid g hi hb hk;replace S:=S.go hm_;clear F hi hb hk hs_ hm_ ;(try rw [← Ny138.out] at S);have F:=S.fc) | ((with_reducible refine gd 11 rfl (L ?_));refine lia 11 (atI .i64) 3 S ([(-1),8]:List Int) (fun _ _=>(Reps.one (show Kd.M (Kd.int .i64) _ _ _ (-1) [.int .i64 (-1)] from rfl) (Reps.one (show Kd.M (Kd.int .i64) _ _ _ 8 [.int .i64 8] from rfl) (Reps.none _ _)))) (by first | (go_simp;done) | (go_simp;rfl)) ?_;clear S F;intro Ay138 cy138 W S;(try rw [← Ny138.out] at S ⊢);have F:=S.fc) | ((with_reducible refine gate_callee (f:=47) rfl (L ?_));refine cl (some 12) Try.func47 (spec_l1Cur_among.calls g _ _ _ _ _ _ _ _ _ _ _ _ _ S.hb (S.hge g) hS0_0 S.below S.cg S.n A5) (hargs:=by (simp only [ma_,mb_,mc_,F] <;> rfl)) (h:=?_);rintro e W ⟨rfl,hi,hb,hk⟩;refine ⟨_,rfl,?_⟩;obtain ⟨W_,hs_,hm_,S⟩:=S.mid g hi hb hk;replace S:=S.go hm_;clear F hi hb hk hs_ hm_ ;(try rw [← Ny138.out] at S);have F:=S.fc) | ((with_reducible refine gs (t:=3) rfl (L ?_));(first | refine sb (.int _ _) S sz3 ?_ | refine ro (.int _ _) S sz3 ?_ (ho:=rfl) (hx:=rfl) (hy:=rfl));clear S F;intro W S;(try rw [← Ny138.out] at S);have F:=S.fc) | ((with_reducible refine gs (t:=27) rfl (L ?_));(first | refine sb (.agg #[_,_]) S sz27 ?_ | refine ro (.agg #[_,_]) S sz27 ?_ (ho:=rfl) (hx:=rfl) (hy:=rfl));clear S F;intro W S;(try rw [← Ny138.out] at S);have F:=S.fc))
   refine bodyPost_ret (results_cell_row rfl _ _ gb129 27 #[.int .i64 t141,.int .i64 t131] (0,0) _ rfl S.hb Try.underlying27 rfl (by kernel_rfl)) rfl ?_
   exact ⟨(by first | rfl | (simp;done) | first | rfl | (simp [e0_,e1_] <;> rfl) | (simp [*,e0_,e1_] <;> rfl)),(by first | exact S.hb | simpa using S.hb (g:=g)),S.below,S.kept⟩
 · skip
   replace c4:=cne c4
   replace H:=sp_ H;rcases H with ⟨c20,H⟩ | ⟨c20,H⟩
   · skip
     replace c20:=ceq c20
     (first | (with_reducible replace H:=ob_ H;obtain ⟨y144,hy144,H⟩:=H;(try dsimp only at H)) | (obtain ⟨y144,hy144⟩:∃ y_:List Int,y_ = (([(-1),1,2]:List Int)):=⟨_,rfl⟩;(try rw [← hy144] at H);(try simp only [Option.bind_some] at H)));have Ny144:=Aside0.mk hy144;clear hy144
     replace H:=Option.bind_eq_some_iff.mp H;obtain ⟨⟨t147,t148,t149⟩,A21,H⟩:=H;(try dsimp only at H)
     simp only [Option.some.injEq,Prod.mk.injEq] at H
     obtain ⟨rfl,rfl,rfl,rfl⟩:=H
     go_enter Try.func29,Try.ntmps29
     go_wp2_with (first | ((with_reducible refine gd 2 rfl (L ?_));refine al 2 S zi27 ?_;clear S F;intro gb129 W S;have F:=S.fc) | ((with_reducible refine gate_callee (f:=52) rfl (L ?_));refine cl (some 5) Try.func52 (spec_l1Cur_cell.calls _ g _ _ _ _ _ _ _ _ _ _ _ S.hb (S.hge g) hS0_0 S.below A2) (hargs:=by (simp only [ma_,mb_,mc_,F] <;> rfl)) (h:=?_);rintro e W ⟨rfl,hi,hb,hk⟩;refine ⟨_,rfl,?_⟩;obtain ⟨W_,hs_,hm_,S⟩:=S.mid g hi hb hk;replace S:=S.go hm_;clear F hi hb hk hs_ hm_ ;(try rw [← Ny144.out] at S);have F:=S.fc) | ((with_reducible refine gd 3 rfl (L ?_));refine al 3 S zi27 ?_;clear S F;intro gb134 W S;have F:=S.fc) | ((with_reducible refine gate_callee (f:=36) rfl (L ?_));refine cl (some 7) Try.func36 (spec_l1Cur_pick.calls g _ _ _ _ _ _ _ _ _ _ _ S.hb (S.hge g) hS0_0 S.below A3) (hargs:=by (simp only [ma_,mb_,mc_,F] <;> rfl)) (h:=?_);rintro e W ⟨rfl,hi,hb,hk⟩;refine ⟨_,rfl,?_⟩;obtain ⟨W_,hs_,hm_,S⟩:=S.mid g hi hb hk;replace S:=S.go hm_;clear F hi hb hk hs_ hm_ ;(try rw [← Ny144.out] at S);have F:=S.fc) | ((with_reducible refine gd 17 rfl (L ?_));refine lia 17 (atI .i64) 3 S ([(-1),1,2]:List Int) (fun _ _=>(Reps.one (show Kd.M (Kd.int .i64) _ _ _ (-1) [.int .i64 (-1)] from rfl) (Reps.one (show Kd.M (Kd.int .i64) _ _ _ 1 [.int .i64 1] from rfl) (Reps.one (show Kd.M (Kd.int .i64) _ _ _ 2 [.int .i64 2] from rfl) (Reps.none _ _))))) (by first | (go_simp;done) | (go_simp;rfl)) ?_;clear S F;intro Ay144 cy144 W S;(try rw [← Ny144.out] at S ⊢);have F:=S.fc) | ((with_reducible refine gate_callee (f:=47) rfl (L ?_));refine cl (some 18) Try.func47 (spec_l1Cur_among.calls g _ _ _ _ _ _ _ _ _ _ _ _ _ S.hb (S.hge g) hS0_0 S.below S.cg S.n A21) (hargs:=by (simp only [ma_,mb_,mc_,F] <;> rfl)) (h:=?_);rintro e W ⟨rfl,hi,hb,hk⟩;refine ⟨_,rfl,?_⟩;obtain ⟨W_,hs_,hm_,S⟩:=S.mid g hi hb hk;replace S:=S.go hm_;clear F hi hb hk hs_ hm_ ;(try rw [← Ny144.out] at S);have F:=S.fc) | ((with_reducible refine gs (t:=3) rfl (L ?_));(first | refine sb (.int _ _) S sz3 ?_ | refine ro (.int _ _) S sz3 ?_ (ho:=rfl) (hx:=rfl) (hy:=rfl));clear S F;intro W S;(try rw [← Ny144.out] at S);have F:=S.fc) | ((with_reducible refine gs (t:=27) rfl (L ?_));(first | refine sb (.agg #[_,_]) S sz27 ?_ | refine ro (.agg #[_,_]) S sz27 ?_ (ho:=rfl) (hx:=rfl) (hy:=rfl));clear S F;intro W S;(try rw [← Ny144.out] at S);have F:=S.fc))
     refine bodyPost_ret (results_cell_row rfl _ _ gb129 27 #[.int .i64 t130,.int .i64 t147] (0,0) _ rfl S.hb Try.underlying27 rfl (by kernel_rfl)) rfl ?_
     exact ⟨(by first | rfl | (simp;done) | first | rfl | (simp [e0_,e1_] <;> rfl) | (simp [*,e0_,e1_] <;> rfl)),(by first | exact S.hb | simpa using S.hb (g:=g)),S.below,S.kept⟩
   · skip
     replace c20:=cne c20
     simp only [Option.some.injEq,Prod.mk.injEq] at H
     obtain ⟨rfl,rfl,rfl,rfl⟩:=H
     go_enter Try.func29,Try.ntmps29
     go_wp2_with (first | ((with_reducible refine gd 2 rfl (L ?_));refine al 2 S zi27 ?_;clear S F;intro gb129 W S;have F:=S.fc) | ((with_reducible refine gate_callee (f:=52) rfl (L ?_));refine cl (some 5) Try.func52 (spec_l1Cur_cell.calls _ g _ _ _ _ _ _ _ _ _ _ _ S.hb (S.hge g) hS0_0 S.below A2) (hargs:=by (simp only [ma_,mb_,mc_,F] <;> rfl)) (h:=?_);rintro e W ⟨rfl,hi,hb,hk⟩;refine ⟨_,rfl,?_⟩;obtain ⟨W_,hs_,hm_,S⟩:=S.mid g hi hb hk;replace S:=S.go hm_;clear F hi hb hk hs_ hm_ ;have F:=S.fc) | ((with_reducible refine gd 3 rfl (L ?_));refine al 3 S zi27 ?_;clear S F;intro gb134 W S;have F:=S.fc) | ((with_reducible refine gate_callee (f:=36) rfl (L ?_));refine cl (some 7) Try.func36 (spec_l1Cur_pick.calls g _ _ _ _ _ _ _ _ _ _ _ S.hb (S.hge g) hS0_0 S.below A3) (hargs:=by (simp only [ma_,mb_,mc_,F] <;> rfl)) (h:=?_);rintro e W ⟨rfl,hi,hb,hk⟩;refine ⟨_,rfl,?_⟩;obtain ⟨W_,hs_,hm_,S⟩:=S.mid g hi hb hk;replace S:=S.go hm_;clear F hi hb hk hs_ hm_ ;have F:=S.fc) | ((with_reducible refine gs (t:=3) rfl (L ?_));(first | refine sb (.int _ _) S sz3 ?_ | refine ro (.int _ _) S sz3 ?_ (ho:=rfl) (hx:=rfl) (hy:=rfl));(clear S F;intro W S;have F:=S.fc)) | ((with_reducible refine gs (t:=27) rfl (L ?_));(first | refine sb (.agg #[_,_]) S sz27 ?_ | refine ro (.agg #[_,_]) S sz27 ?_ (ho:=rfl) (hx:=rfl) (hy:=rfl));(clear S F;intro W S;have F:=S.fc)))
     refine bodyPost_ret (results_cell_row rfl _ _ gb129 27 #[.int .i64 t130,.int .i64 t131] (0,0) _ rfl S.hb Try.underlying27 rfl (by kernel_rfl)) rfl ?_
     exact ⟨(by first | rfl | (simp;done) | first | rfl | (simp [e0_,e1_] <;> rfl) | (simp [*,e0_,e1_] <;> rfl)),(by first | exact S.hb | simpa using S.hb (g:=g)),S.below,S.kept⟩

/-! ### spec_l1Cur_one: function 37 -/
def spec_l1Cur_one.f (s0_0:List Int) (s0_1:Int) (s0_2:Int) (a1:Int):Option (Bool × Int × Int):=(spec_l1Cur_pick.f s0_0 s0_1 s0_2 a1).bind fun bt150=>(some ((bt150.1 == 0),bt150.2.1,bt150.2.2))
theorem spec_l1Cur_one.calls (g:Nat) (s0_0:List Int) (s0_1:Int) (s0_2:Int) (a1:Int) (r1:Bool) (r2:Int) (r3:Int) (As0_0:Option Addr) (cs0_0:Nat) (w0 w:World) (hI:w.heap[g]? = some (.cells #[.slice As0_0 s0_0.length cs0_0,.int .i64 s0_1,.int .u64 s0_2] 51 (0,0))) (hG:w0.heap.size ≤ g) (hS0_0:Kd.C (Kd.int .u8) w0 As0_0 s0_0.length s0_0) (hB:Below w0.heap.size w0 w) (h:spec_l1Cur_one.f s0_0 s0_1 s0_2 a1 = some (r1,r2,r3)) :
    Calls Try.prog 37 #[.pointer (some ⟨g,0,none⟩),.int .i64 a1] w fun e w'=>e = .returned (.bool r1)∧w'.heap[g]? = some (.cells #[.slice As0_0 s0_0.length cs0_0,.int .i64 r2,.int .u64 r3] 51 (0,0))∧Below w0.heap.size w0 w'∧Kept w w' (fun k_=>k_ = g):=by
 have S:=St.boxed hB hG hI (dg (Kd.heap_int .u8) (atI .u8) hS0_0 hB hG dn)
 clear hI hB
 have F:=S.fc
 have H:=h;clear h;unfold spec_l1Cur_one.f at H
 replace H:=Option.bind_eq_some_iff.mp H;obtain ⟨⟨t150,t151,t152⟩,A3,H⟩:=H;(try dsimp only at H)
 simp only [Option.some.injEq,Prod.mk.injEq] at H
 obtain ⟨rfl,rfl,rfl⟩:=H
 go_enter Try.func37,Try.ntmps37
 go_wp2_with (first | ((with_reducible refine gate_callee (f:=36) rfl (L ?_));refine cl (some 7) Try.func36 (spec_l1Cur_pick.calls g _ _ _ _ _ _ _ _ _ _ _ S.hb (S.hge g) hS0_0 S.below A3) (hargs:=by (simp only [ma_,mb_,mc_,F] <;> rfl)) (h:=?_);rintro e W ⟨rfl,hi,hb,hk⟩;refine ⟨_,rfl,?_⟩;obtain ⟨W_,hs_,hm_,S⟩:=S.mid g hi hb hk;replace S:=S.go hm_;clear F hi hb hk hs_ hm_ ;have F:=S.fc))
 go_ret
 exact ⟨(by first | rfl | (simp;done) | first | rfl | (simp [e0_,e1_] <;> rfl) | (simp [*,e0_,e1_] <;> rfl)),(by first | exact S.hb | simpa using S.hb (g:=g)),S.below,S.kept⟩

/-! ### spec_l1Cur_boardOf: function 40 -/
mutual
def spec_l1Cur_boardOf.l0:Nat→Int→Int→Int→List Int→Int→Int→Int→Int→List (S27)→Option (Int × Int × (List (S27)) × Int × Int)
  | 0,_,_,_,_,_,_,_,_,_=>none
  | k + 1,x1,x2,x8,x1000,x1001,x1002,x155000,x155001,x155002=>if (x155002.length:Int) < (wrap64 (x1 * x2)) then ((spec_l1Cur_one.f x1000 x1001 x1002 x8).bind fun bt162=>(if bt162.1 = true then (spec_l1Cur_boardOf.j1 k x1 x2 x8 true x1000 bt162.2.1 bt162.2.2 x155000 x155001 x155002 0 0) else ((spec_l1Cur_one.f x1000 bt162.2.1 bt162.2.2 3).bind fun bt165=>(spec_l1Cur_boardOf.j1 k x1 x2 x8 bt165.1 x1000 bt165.2.1 bt165.2.2 x155000 x155001 x155002 0 0)))) else (some (x155000,x155001,x155002,x1001,x1002))
def spec_l1Cur_boardOf.j1:Nat→Int→Int→Int→Bool→List Int→Int→Int→Int→Int→List (S27)→Int→Int→Option (Int × Int × (List (S27)) × Int × Int)
  | 0,_,_,_,_,_,_,_,_,_,_,_,_=>none
  | k + 1,x1,x2,x8,x30,x1000,x1001,x1002,x155000,x155001,x155002,x162000,x162001=>if x30 = true then ((spec_l1Cur_cell.f k x1000 x1001 x1002).bind fun bt168=>(spec_l1Cur_boardOf.j2 k x1 x2 x8 x1000 bt168.2.2.1 bt168.2.2.2 x155000 x155001 x155002 bt168.1 bt168.2.1)) else (spec_l1Cur_boardOf.j2 k x1 x2 x8 x1000 x1001 x1002 x155000 x155001 x155002 x162000 x162001)
def spec_l1Cur_boardOf.j2:Nat→Int→Int→Int→List Int→Int→Int→Int→Int→List (S27)→Int→Int→Option (Int × Int × (List (S27)) × Int × Int)
  | 0,_,_,_,_,_,_,_,_,_,_,_=>none
  | k + 1,x1,x2,x8,x1000,x1001,x1002,x155000,x155001,x155002,x162000,x162001=>if x162000 = 5 then ((spec_l1Cur_one.f x1000 x1001 x1002 3).bind fun bt172=>(if bt172.1 = true then (if x155002.length < 8796093022208 then (spec_l1Cur_boardOf.l0 k x1 x2 x8 x1000 bt172.2.1 bt172.2.2 x155000 x155001 (x155002 ++ [(⟨x162000,x162001⟩:S27)])) else (none)) else ((spec_l1Cur_pick.f x1000 bt172.2.1 bt172.2.2 2).bind fun bt178=>(if x155002.length < 8796093022208 then (spec_l1Cur_boardOf.l0 k x1 x2 x8 x1000 bt178.2.1 bt178.2.2 x155000 x155001 (x155002 ++ [(⟨3,bt178.1⟩:S27)])) else (none))))) else (if x155002.length < 8796093022208 then (spec_l1Cur_boardOf.l0 k x1 x2 x8 x1000 x1001 x1002 x155000 x155001 (x155002 ++ [(⟨x162000,x162001⟩:S27)])) else (none))
end
def spec_l1Cur_boardOf.f (k:Nat) (s0_0:List Int) (s0_1:Int) (s0_2:Int) (a1:Int) (a2:Int):Option (Int × Int × (List (S27)) × Int × Int):=(spec_l1Cur_among.f s0_0 s0_1 s0_2 (([1,2,2]:List Int))).bind fun bt158=>(spec_l1Cur_boardOf.l0 k a1 a2 bt158.1 s0_0 bt158.2.1 bt158.2.2 a1 a2 ([]:List (S27)))
theorem spec_l1Cur_boardOf.calls (k:Nat) (g:Nat) (s0_0:List Int) (s0_1:Int) (s0_2:Int) (a1:Int) (a2:Int) (r1:Int) (r2:Int) (r3:List (S27)) (r4:Int) (r5:Int) (As0_0:Option Addr) (cs0_0:Nat) (w0 w:World) (hI:w.heap[g]? = some (.cells #[.slice As0_0 s0_0.length cs0_0,.int .i64 s0_1,.int .u64 s0_2] 51 (0,0))) (hG:w0.heap.size ≤ g) (hS0_0:Kd.C (Kd.int .u8) w0 As0_0 s0_0.length s0_0) (hB:Below w0.heap.size w0 w) (h:spec_l1Cur_boardOf.f k s0_0 s0_1 s0_2 a1 a2 = some (r1,r2,r3,r4,r5)) :
    Calls Try.prog 40 #[.pointer (some ⟨g,0,none⟩),.int .i64 a1,.int .i64 a2] w fun e w'=>∃ v2_:Value,e = .returned (.agg #[.int .i64 r1,.int .i64 r2,v2_])∧Kd.R k27 27 w' w.heap.size (fun _=>True) v2_ r3∧w'.heap[g]? = some (.cells #[.slice As0_0 s0_0.length cs0_0,.int .i64 r4,.int .u64 r5] 51 (0,0))∧Below w0.heap.size w0 w'∧Kept w w' (fun k_=>k_ = g):=by
 have S:=St.boxed hB hG hI (dg (Kd.heap_int .u8) (atI .u8) hS0_0 hB hG dn)
 clear hI hB
 have F:=S.fc
 have H:=h;clear h;unfold spec_l1Cur_boardOf.f at H
 (first | (with_reducible replace H:=ob_ H;obtain ⟨y155,hy155,H⟩:=H;(try dsimp only at H)) | (obtain ⟨y155,hy155⟩:∃ y_:List Int,y_ = (([1,2,2]:List Int)):=⟨_,rfl⟩;(try rw [← hy155] at H);(try simp only [Option.bind_some] at H)));have Ny155:=Aside0.mk hy155;clear hy155
 replace H:=Option.bind_eq_some_iff.mp H;obtain ⟨⟨t158,t159,t160⟩,A4,H⟩:=H;(try dsimp only at H)
 go_enter Try.func40,Try.ntmps40
 go_wp2_with (first | ((with_reducible refine gd 6 rfl (L ?_));refine al 6 S zi25 ?_;clear S F;intro gb153 W S;have F:=S.fc) | ((with_reducible refine gd 7 rfl (L ?_));refine al 7 S zi25 ?_;clear S F;intro gb154 W S;have F:=S.fc) | ((with_reducible refine gd 14 rfl (L ?_));refine lia 14 (atI .i64) 3 S ([1,2,2]:List Int) (fun _ _=>(Reps.one (show Kd.M (Kd.int .i64) _ _ _ 1 [.int .i64 1] from rfl) (Reps.one (show Kd.M (Kd.int .i64) _ _ _ 2 [.int .i64 2] from rfl) (Reps.one (show Kd.M (Kd.int .i64) _ _ _ 2 [.int .i64 2] from rfl) (Reps.none _ _))))) (by first | (go_simp;done) | (go_simp;rfl)) ?_;clear S F;intro Ay155 cy155 W S;(try rw [← Ny155.out] at S ⊢);have F:=S.fc) | ((with_reducible refine gate_callee (f:=47) rfl (L ?_));refine cl (some 15) Try.func47 (spec_l1Cur_among.calls g _ _ _ _ _ _ _ _ _ _ _ _ _ S.hb (S.hge g) hS0_0 S.below S.cg S.n A4) (hargs:=by (simp only [ma_,mb_,mc_,F] <;> rfl)) (h:=?_);rintro e W ⟨rfl,hi,hb,hk⟩;refine ⟨_,rfl,?_⟩;obtain ⟨W_,hs_,hm_,S⟩:=S.mid g hi hb hk;replace S:=S.go hm_;clear F hi hb hk hs_ hm_ ;(try rw [← Ny155.out] at S);have F:=S.fc) | ((with_reducible refine gs (t:=23) rfl (L ?_));(first | refine sb (.slice _ _ _) S sz23 ?_ | refine ro (.slice _ _ _) S sz23 ?_ (ho:=rfl) (hx:=rfl) (hy:=rfl));clear S F;intro W S;(try rw [← Ny155.out] at S);have F:=S.fc) | ((with_reducible refine gs (t:=25) rfl (L ?_));(first | refine sb (.agg #[_,_,_]) S sz25 ?_ | refine ro (.agg #[_,_,_]) S sz25 ?_ (ho:=rfl) (hx:=rfl) (hy:=rfl));clear S F;intro W S;(try rw [← Ny155.out] at S);have F:=S.fc) | ((with_reducible refine gs (t:=27) rfl (L ?_));(first | refine sb (.agg #[_,_]) S sz27 ?_ | refine ro (.agg #[_,_]) S sz27 ?_ (ho:=rfl) (hx:=rfl) (hy:=rfl));clear S F;intro W S;(try rw [← Ny155.out] at S);have F:=S.fc))
 go_loopg [] k (fun kq w'=>∃ (x1001_1:Int) (x1002_1:Int) (x155002_1:List (S27)) (Ax155002_1:Option Addr) (cx155002_1:Nat),spec_l1Cur_boardOf.l0 kq a1 a2 t158 s0_0 x1001_1 x1002_1 a1 a2 x155002_1 = some (r1,r2,r3,r4,r5)∧kq ≤ k∧St w0 w (fun k=>k = g) [bor (atI .u8) As0_0 s0_0.length s0_0] w'  [row at27 27 Ax155002_1 x155002_1.length cx155002_1 x155002_1,box gb154 25 [.int .i64 a1,.int .i64 a2,.slice Ax155002_1 x155002_1.length cx155002_1],box gb153 25 [.int .i64 0,.int .i64 0,.slice none 0 0],box g 51 [.slice As0_0 s0_0.length cs0_0,.int .i64 x1001_1,.int .u64 x1002_1]])
 case atStart=>exact ⟨t159,t160,_,_,_,H,Nat.le_refl _,((S.nl (e:=27) at27).pm [0,2,3,4])⟩
 case round =>
  clear H S F
  obtain ⟨x1001_1,x1002_1,x155002_1,Ax155002_1,cx155002_1,HA,HK1,S⟩:=hrel
  have F:=S.fc
  cases gk with
  | zero=>exact absurd HA (by simp [spec_l1Cur_boardOf.l0])
  | succ k1 =>
   have H:=HA;clear HA;simp only [spec_l1Cur_boardOf.l0,F] at H
   replace H:=sp_ H;rcases H with ⟨c14,H⟩ | ⟨c14,H⟩
   · skip
     go_upto_region 5 with (first | ((with_reducible refine gd 9 rfl (L ?_));refine al 9 S zi27 ?_;clear S F;intro gb161 W S;have F:=S.fc) | ((with_reducible refine gs (t:=23) rfl (L ?_));(first | refine sb (.slice _ _ _) S sz23 ?_ | refine ro (.slice _ _ _) S sz23 ?_ (ho:=rfl) (hx:=rfl) (hy:=rfl));clear S F;intro W S;(try rw [← Ny155.out] at S);have F:=S.fc) | ((with_reducible refine gs (t:=25) rfl (L ?_));(first | refine sb (.agg #[_,_,_]) S sz25 ?_ | refine ro (.agg #[_,_,_]) S sz25 ?_ (ho:=rfl) (hx:=rfl) (hy:=rfl));clear S F;intro W S;(try rw [← Ny155.out] at S);have F:=S.fc) | ((with_reducible refine gs (t:=27) rfl (L ?_));(first | refine sb (.agg #[_,_]) S sz27 ?_ | refine ro (.agg #[_,_]) S sz27 ?_ (ho:=rfl) (hx:=rfl) (hy:=rfl));clear S F;intro W S;(try rw [← Ny155.out] at S);have F:=S.fc))
     (try simp only [Act.put,List.setIfInBounds_toArray,List.set_cons_zero,List.set_cons_succ])
     go_cut [30] (fun v30 wc=>∃ (kq:Nat) (x30_14:Bool) (x1001_14:Int) (x1002_14:Int),v30 = .bool x30_14∧spec_l1Cur_boardOf.j1 kq a1 a2 t158 x30_14 s0_0 x1001_14 x1002_14 a1 a2 x155002_1 0 0 = some (r1,r2,r3,r4,r5)∧kq ≤ k1∧St w0 w (fun k=>k = g) [bor (atI .u8) As0_0 s0_0.length s0_0] wc  [box gb161 27 [.int .i64 0,.int .i64 0],row at27 27 Ax155002_1 x155002_1.length cx155002_1 x155002_1,box gb154 25 [.int .i64 a1,.int .i64 a2,.slice Ax155002_1 x155002_1.length cx155002_1],box gb153 25 [.int .i64 0,.int .i64 0,.slice none 0 0],box g 51 [.slice As0_0 s0_0.length cs0_0,.int .i64 x1001_14,.int .u64 x1002_14]])
     case first =>
      replace H:=Option.bind_eq_some_iff.mp H;obtain ⟨⟨t162,t163,t164⟩,A25,H⟩:=H;(try dsimp only at H)
      replace H:=sp_ H;rcases H with ⟨c26,H⟩ | ⟨c26,H⟩
      · skip
        subst c26
        go_wp2_with (first | ((with_reducible refine gate_callee (f:=37) rfl (L ?_));refine cl (some 26) Try.func37 (spec_l1Cur_one.calls g _ _ _ _ _ _ _ _ _ _ _ S.hb (S.hge g) hS0_0 S.below A25) (hargs:=by (simp only [ma_,mb_,mc_,F] <;> rfl)) (h:=?_);rintro e W ⟨rfl,hi,hb,hk⟩;refine ⟨_,rfl,?_⟩;obtain ⟨W_,hs_,hm_,S⟩:=S.mid g hi hb hk;replace S:=S.go hm_;clear F hi hb hk hs_ hm_ ;(try rw [← Ny155.out] at S);have F:=S.fc) | ((with_reducible refine gs (t:=23) rfl (L ?_));(first | refine sb (.slice _ _ _) S sz23 ?_ | refine ro (.slice _ _ _) S sz23 ?_ (ho:=rfl) (hx:=rfl) (hy:=rfl));clear S F;intro W S;(try rw [← Ny155.out] at S);have F:=S.fc) | ((with_reducible refine gs (t:=25) rfl (L ?_));(first | refine sb (.agg #[_,_,_]) S sz25 ?_ | refine ro (.agg #[_,_,_]) S sz25 ?_ (ho:=rfl) (hx:=rfl) (hy:=rfl));clear S F;intro W S;(try rw [← Ny155.out] at S);have F:=S.fc) | ((with_reducible refine gs (t:=27) rfl (L ?_));(first | refine sb (.agg #[_,_]) S sz27 ?_ | refine ro (.agg #[_,_]) S sz27 ?_ (ho:=rfl) (hx:=rfl) (hy:=rfl));clear S F;intro W S;(try rw [← Ny155.out] at S);have F:=S.fc))
        go_meet
        case rel=>exact ⟨_,true,t163,t164,(by first | rfl | (simp;done) | (simp [*];done) | (rw [w6_ (by omega) (by omega)])),H,(by first | omega | exact Nat.le_refl _),S⟩
      · skip
        replace c26:=cbf c26;subst c26
        replace H:=Option.bind_eq_some_iff.mp H;obtain ⟨⟨t165,t166,t167⟩,A28,H⟩:=H;(try dsimp only at H)
        go_wp2_with (first | ((with_reducible refine gate_callee (f:=37) rfl (L ?_));refine cl (some 26) Try.func37 (spec_l1Cur_one.calls g _ _ _ _ _ _ _ _ _ _ _ S.hb (S.hge g) hS0_0 S.below A25) (hargs:=by (simp only [ma_,mb_,mc_,F] <;> rfl)) (h:=?_);rintro e W ⟨rfl,hi,hb,hk⟩;refine ⟨_,rfl,?_⟩;obtain ⟨W_,hs_,hm_,S⟩:=S.mid g hi hb hk;replace S:=S.go hm_;clear F hi hb hk hs_ hm_ ;(try rw [← Ny155.out] at S);have F:=S.fc) | (go_at_call 37;(try simp only [F]);refine (spec_l1Cur_one.calls g _ _ _ _ _ _ _ _ _ _ _ S.hb (S.hge g) hS0_0 S.below A28).mono ?_;rintro e W ⟨rfl,hi,hb,hk⟩;obtain ⟨W_,hs_,hm_,S⟩:=S.mid g hi hb hk;replace S:=S.go hm_;clear F hi hb hk hs_ hm_ ;(try rw [← Ny155.out] at S);have F:=S.fc) | ((with_reducible refine gs (t:=23) rfl (L ?_));(first | refine sb (.slice _ _ _) S sz23 ?_ | refine ro (.slice _ _ _) S sz23 ?_ (ho:=rfl) (hx:=rfl) (hy:=rfl));clear S F;intro W S;(try rw [← Ny155.out] at S);have F:=S.fc) | ((with_reducible refine gs (t:=25) rfl (L ?_));(first | refine sb (.agg #[_,_,_]) S sz25 ?_ | refine ro (.agg #[_,_,_]) S sz25 ?_ (ho:=rfl) (hx:=rfl) (hy:=rfl));clear S F;intro W S;(try rw [← Ny155.out] at S);have F:=S.fc) | ((with_reducible refine gs (t:=27) rfl (L ?_));(first | refine sb (.agg #[_,_]) S sz27 ?_ | refine ro (.agg #[_,_]) S sz27 ?_ (ho:=rfl) (hx:=rfl) (hy:=rfl));clear S F;intro W S;(try rw [← Ny155.out] at S);have F:=S.fc))
        go_meet
        case rel=>exact ⟨_,t165,t166,t167,(by first | rfl | (simp;done) | (simp [*];done) | (rw [w6_ (by omega) (by omega)])),H,(by first | omega | exact Nat.le_refl _),S⟩
     case rest =>
      clear H S F
      obtain ⟨kq,x30_14,x1001_14,x1002_14,rfl,HA,HJ14,S⟩:=hcut
      have F:=S.fc
      cases kq with
      | zero=>exact absurd HA (by simp [spec_l1Cur_boardOf.j1])
      | succ kj14 =>
       have H:=HA;clear HA;simp only [spec_l1Cur_boardOf.j1,F] at H
       go_upto_if 30 with (first | ((with_reducible refine gs (t:=23) rfl (L ?_));(first | refine sb (.slice _ _ _) S sz23 ?_ | refine ro (.slice _ _ _) S sz23 ?_ (ho:=rfl) (hx:=rfl) (hy:=rfl));clear S F;intro W S;(try rw [← Ny155.out] at S);have F:=S.fc) | ((with_reducible refine gs (t:=25) rfl (L ?_));(first | refine sb (.agg #[_,_,_]) S sz25 ?_ | refine ro (.agg #[_,_,_]) S sz25 ?_ (ho:=rfl) (hx:=rfl) (hy:=rfl));clear S F;intro W S;(try rw [← Ny155.out] at S);have F:=S.fc) | ((with_reducible refine gs (t:=27) rfl (L ?_));(first | refine sb (.agg #[_,_]) S sz27 ?_ | refine ro (.agg #[_,_]) S sz27 ?_ (ho:=rfl) (hx:=rfl) (hy:=rfl));clear S F;intro W S;(try rw [← Ny155.out] at S);have F:=S.fc))
       go_cut [] (fun wc=>∃ (kq:Nat) (x1001_30:Int) (x1002_30:Int) (x162000_30:Int) (x162001_30:Int),spec_l1Cur_boardOf.j2 kq a1 a2 t158 s0_0 x1001_30 x1002_30 a1 a2 x155002_1 x162000_30 x162001_30 = some (r1,r2,r3,r4,r5)∧kq ≤ kj14∧St w0 w (fun k=>k = g) [bor (atI .u8) As0_0 s0_0.length s0_0] wc  [box gb161 27 [.int .i64 x162000_30,.int .i64 x162001_30],row at27 27 Ax155002_1 x155002_1.length cx155002_1 x155002_1,box gb154 25 [.int .i64 a1,.int .i64 a2,.slice Ax155002_1 x155002_1.length cx155002_1],box gb153 25 [.int .i64 0,.int .i64 0,.slice none 0 0],box g 51 [.slice As0_0 s0_0.length cs0_0,.int .i64 x1001_30,.int .u64 x1002_30]])
       case first =>
        replace H:=sp_ H;rcases H with ⟨c32,H⟩ | ⟨c32,H⟩
        · skip
          subst c32
          replace H:=Option.bind_eq_some_iff.mp H;obtain ⟨⟨t168,t169,t170,t171⟩,A33,H⟩:=H;(try dsimp only at H)
          go_wp2_with (first | ((with_reducible refine gate_callee (f:=52) rfl (L ?_));refine cl (some 32) Try.func52 (spec_l1Cur_cell.calls _ g _ _ _ _ _ _ _ _ _ _ _ S.hb (S.hge g) hS0_0 S.below A33) (hargs:=by (simp only [ma_,mb_,mc_,F] <;> rfl)) (h:=?_);rintro e W ⟨rfl,hi,hb,hk⟩;refine ⟨_,rfl,?_⟩;obtain ⟨W_,hs_,hm_,S⟩:=S.mid g hi hb hk;replace S:=S.go hm_;clear F hi hb hk hs_ hm_ ;(try rw [← Ny155.out] at S);have F:=S.fc) | ((with_reducible refine gs (t:=23) rfl (L ?_));(first | refine sb (.slice _ _ _) S sz23 ?_ | refine ro (.slice _ _ _) S sz23 ?_ (ho:=rfl) (hx:=rfl) (hy:=rfl));clear S F;intro W S;(try rw [← Ny155.out] at S);have F:=S.fc) | ((with_reducible refine gs (t:=25) rfl (L ?_));(first | refine sb (.agg #[_,_,_]) S sz25 ?_ | refine ro (.agg #[_,_,_]) S sz25 ?_ (ho:=rfl) (hx:=rfl) (hy:=rfl));clear S F;intro W S;(try rw [← Ny155.out] at S);have F:=S.fc) | ((with_reducible refine gs (t:=27) rfl (L ?_));(first | refine sb (.agg #[_,_]) S sz27 ?_ | refine ro (.agg #[_,_]) S sz27 ?_ (ho:=rfl) (hx:=rfl) (hy:=rfl));clear S F;intro W S;(try rw [← Ny155.out] at S);have F:=S.fc))
          go_meet
          case rel=>exact ⟨_,t170,t171,t168,t169,H,(by first | omega | exact Nat.le_refl _),S⟩
        · skip
          replace c32:=cbf c32;subst c32
          go_wp2_with (first | ((with_reducible refine gs (t:=23) rfl (L ?_));(first | refine sb (.slice _ _ _) S sz23 ?_ | refine ro (.slice _ _ _) S sz23 ?_ (ho:=rfl) (hx:=rfl) (hy:=rfl));clear S F;intro W S;(try rw [← Ny155.out] at S);have F:=S.fc) | ((with_reducible refine gs (t:=25) rfl (L ?_));(first | refine sb (.agg #[_,_,_]) S sz25 ?_ | refine ro (.agg #[_,_,_]) S sz25 ?_ (ho:=rfl) (hx:=rfl) (hy:=rfl));clear S F;intro W S;(try rw [← Ny155.out] at S);have F:=S.fc) | ((with_reducible refine gs (t:=27) rfl (L ?_));(first | refine sb (.agg #[_,_]) S sz27 ?_ | refine ro (.agg #[_,_]) S sz27 ?_ (ho:=rfl) (hx:=rfl) (hy:=rfl));clear S F;intro W S;(try rw [← Ny155.out] at S);have F:=S.fc))
          go_meet
          case rel=>exact ⟨_,x1001_14,x1002_14,0,0,H,(by first | omega | exact Nat.le_refl _),S⟩
       case rest =>
        clear H S F
        obtain ⟨kq,x1001_30,x1002_30,x162000_30,x162001_30,HA,HJ30,S⟩:=hcut
        have F:=S.fc
        cases kq with
        | zero=>exact absurd HA (by simp [spec_l1Cur_boardOf.j2])
        | succ kj30 =>
         have H:=HA;clear HA;simp only [spec_l1Cur_boardOf.j2,F] at H
         replace H:=sp_ H;rcases H with ⟨c39,H⟩ | ⟨c39,H⟩
         · skip
           replace c39:=ceq c39
           replace H:=Option.bind_eq_some_iff.mp H;obtain ⟨⟨t172,t173,t174⟩,A40,H⟩:=H;(try dsimp only at H)
           replace H:=sp_ H;rcases H with ⟨c41,H⟩ | ⟨c41,H⟩
           · skip
             subst c41
             replace H:=np_ H;obtain ⟨c42,H⟩:=H
             (first | (with_reducible replace H:=ob_ H;obtain ⟨y175,hy175,H⟩:=H;(try dsimp only at H)) | (obtain ⟨y175,hy175⟩:∃ y_:List (S27),y_ = (x155002_1 ++ [(⟨x162000_30,x162001_30⟩:S27)]):=⟨_,rfl⟩;(try rw [← hy175] at H);(try simp only [Option.bind_some] at H)));have Ny175:=Aside0.mk hy175;clear hy175
             go_wp2_with (first | (go_at_call 37;(try simp only [F]);refine (spec_l1Cur_one.calls g _ _ _ _ _ _ _ _ _ _ _ S.hb (S.hge g) hS0_0 S.below A40).mono ?_;rintro e W ⟨rfl,hi,hb,hk⟩;obtain ⟨W_,hs_,hm_,S⟩:=S.mid g hi hb hk;replace S:=S.go hm_;clear F hi hb hk hs_ hm_ ;(try rw [← Ny155.out] at S);(try rw [← Ny175.out] at S);have F:=S.fc) | ((with_reducible refine gd 48 rfl (L ?_));refine apa (A:=Ax155002_1) 48 S Try.underlying23 info27 ?_ (ho:=rfl) (hs:=rfl) (hx:=rfl);clear S F;intro Ay175 cy175 W S;(try rw [← Ny155.out] at S ⊢);(try rw [← Ny175.out] at S ⊢);have F:=S.fc) | ((with_reducible refine gs (t:=23) rfl (L ?_));(first | refine sb (.slice _ _ _) S sz23 ?_ | refine ro (.slice _ _ _) S sz23 ?_ (ho:=rfl) (hx:=rfl) (hy:=rfl));clear S F;intro W S;(try rw [← Ny155.out] at S);(try rw [← Ny175.out] at S);have F:=S.fc) | ((with_reducible refine gs (t:=25) rfl (L ?_));(first | refine sb (.agg #[_,_,_]) S sz25 ?_ | refine ro (.agg #[_,_,_]) S sz25 ?_ (ho:=rfl) (hx:=rfl) (hy:=rfl));clear S F;intro W S;(try rw [← Ny155.out] at S);(try rw [← Ny175.out] at S);have F:=S.fc) | ((with_reducible refine gs (t:=27) rfl (L ?_));(first | refine sb (.agg #[_,_]) S sz27 ?_ | refine ro (.agg #[_,_]) S sz27 ?_ (ho:=rfl) (hx:=rfl) (hy:=rfl));clear S F;intro W S;(try rw [← Ny155.out] at S);(try rw [← Ny175.out] at S);have F:=S.fc))
             go_roundg kj30
             case measure=>omega
             case rel=>exact ⟨t173,t174,y175,_,_,H,(by first | omega | exact Nat.le_refl _),S.tl⟩
           · skip
             replace c41:=cbf c41;subst c41
             replace H:=Option.bind_eq_some_iff.mp H;obtain ⟨⟨t178,t179,t180⟩,A55,H⟩:=H;(try dsimp only at H)
             replace H:=np_ H;obtain ⟨c56,H⟩:=H
             (first | (with_reducible replace H:=ob_ H;obtain ⟨y181,hy181,H⟩:=H;(try dsimp only at H)) | (obtain ⟨y181,hy181⟩:∃ y_:List (S27),y_ = (x155002_1 ++ [(⟨3,t178⟩:S27)]):=⟨_,rfl⟩;(try rw [← hy181] at H);(try simp only [Option.bind_some] at H)));have Ny181:=Aside0.mk hy181;clear hy181
             go_wp2_with (first | (go_at_call 37;(try simp only [F]);refine (spec_l1Cur_one.calls g _ _ _ _ _ _ _ _ _ _ _ S.hb (S.hge g) hS0_0 S.below A40).mono ?_;rintro e W ⟨rfl,hi,hb,hk⟩;obtain ⟨W_,hs_,hm_,S⟩:=S.mid g hi hb hk;replace S:=S.go hm_;clear F hi hb hk hs_ hm_ ;(try rw [← Ny155.out] at S);(try rw [← Ny181.out] at S);have F:=S.fc) | ((with_reducible refine gate_callee (f:=36) rfl (L ?_));refine cl (some 42) Try.func36 (spec_l1Cur_pick.calls g _ _ _ _ _ _ _ _ _ _ _ S.hb (S.hge g) hS0_0 S.below A55) (hargs:=by (simp only [ma_,mb_,mc_,F] <;> rfl)) (h:=?_);rintro e W ⟨rfl,hi,hb,hk⟩;refine ⟨_,rfl,?_⟩;obtain ⟨W_,hs_,hm_,S⟩:=S.mid g hi hb hk;replace S:=S.go hm_;clear F hi hb hk hs_ hm_ ;(try rw [← Ny155.out] at S);(try rw [← Ny181.out] at S);have F:=S.fc) | ((with_reducible refine gd 48 rfl (L ?_));refine apa (A:=Ax155002_1) 48 S Try.underlying23 info27 ?_ (ho:=rfl) (hs:=rfl) (hx:=rfl);clear S F;intro Ay181 cy181 W S;(try rw [← Ny155.out] at S ⊢);(try rw [← Ny181.out] at S ⊢);have F:=S.fc) | ((with_reducible refine gs (t:=23) rfl (L ?_));(first | refine sb (.slice _ _ _) S sz23 ?_ | refine ro (.slice _ _ _) S sz23 ?_ (ho:=rfl) (hx:=rfl) (hy:=rfl));clear S F;intro W S;(try rw [← Ny155.out] at S);(try rw [← Ny181.out] at S);have F:=S.fc) | ((with_reducible refine gs (t:=25) rfl (L ?_));(first | refine sb (.agg #[_,_,_]) S sz25 ?_ | refine ro (.agg #[_,_,_]) S sz25 ?_ (ho:=rfl) (hx:=rfl) (hy:=rfl));clear S F;intro W S;(try rw [← Ny155.out] at S);(try rw [← Ny181.out] at S);have F:=S.fc) | ((with_reducible refine gs (t:=27) rfl (L ?_));(first | refine sb (.agg #[_,_]) S sz27 ?_ | refine ro (.agg #[_,_]) S sz27 ?_ (ho:=rfl) (hx:=rfl) (hy:=rfl));clear S F;intro W S;(try rw [← Ny155.out] at S);(try rw [← Ny181.out] at S);have F:=S.fc))
             go_roundg kj30
             case measure=>omega
             case rel=>exact ⟨t179,t180,y181,_,_,H,(by first | omega | exact Nat.le_refl _),S.tl⟩
         · skip
           replace c39:=cne c39
           replace H:=np_ H;obtain ⟨c70,H⟩:=H
           (first | (with_reducible replace H:=ob_ H;obtain ⟨y184,hy184,H⟩:=H;(try dsimp only at H)) | (obtain ⟨y184,hy184⟩:∃ y_:List (S27),y_ = (x155002_1 ++ [(⟨x162000_30,x162001_30⟩:S27)]):=⟨_,rfl⟩;(try rw [← hy184] at H);(try simp only [Option.bind_some] at H)));have Ny184:=Aside0.mk hy184;clear hy184
           go_wp2_with (first | ((with_reducible refine gd 48 rfl (L ?_));refine apa (A:=Ax155002_1) 48 S Try.underlying23 info27 ?_ (ho:=rfl) (hs:=rfl) (hx:=rfl);clear S F;intro Ay184 cy184 W S;(try rw [← Ny155.out] at S ⊢);(try rw [← Ny184.out] at S ⊢);have F:=S.fc) | ((with_reducible refine gs (t:=23) rfl (L ?_));(first | refine sb (.slice _ _ _) S sz23 ?_ | refine ro (.slice _ _ _) S sz23 ?_ (ho:=rfl) (hx:=rfl) (hy:=rfl));clear S F;intro W S;(try rw [← Ny155.out] at S);(try rw [← Ny184.out] at S);have F:=S.fc) | ((with_reducible refine gs (t:=25) rfl (L ?_));(first | refine sb (.agg #[_,_,_]) S sz25 ?_ | refine ro (.agg #[_,_,_]) S sz25 ?_ (ho:=rfl) (hx:=rfl) (hy:=rfl));clear S F;intro W S;(try rw [← Ny155.out] at S);(try rw [← Ny184.out] at S);have F:=S.fc) | ((with_reducible refine gs (t:=27) rfl (L ?_));(first | refine sb (.agg #[_,_]) S sz27 ?_ | refine ro (.agg #[_,_]) S sz27 ?_ (ho:=rfl) (hx:=rfl) (hy:=rfl));clear S F;intro W S;(try rw [← Ny155.out] at S);(try rw [← Ny184.out] at S);have F:=S.fc))
           go_roundg kj30
           case measure=>omega
           case rel=>exact ⟨x1001_30,x1002_30,y184,_,_,H,(by first | omega | exact Nat.le_refl _),S.tl⟩
   · skip
     simp only [Option.some.injEq,Prod.mk.injEq] at H
     obtain ⟨rfl,rfl,rfl,rfl,rfl⟩:=H
     go_wp2_with (first | ((with_reducible refine gs (t:=23) rfl (L ?_));(first | refine sb (.slice _ _ _) S sz23 ?_ | refine ro (.slice _ _ _) S sz23 ?_ (ho:=rfl) (hx:=rfl) (hy:=rfl));clear S F;intro W S;(try rw [← Ny155.out] at S);have F:=S.fc) | ((with_reducible refine gs (t:=25) rfl (L ?_));(first | refine sb (.agg #[_,_,_]) S sz25 ?_ | refine ro (.agg #[_,_,_]) S sz25 ?_ (ho:=rfl) (hx:=rfl) (hy:=rfl));clear S F;intro W S;(try rw [← Ny155.out] at S);have F:=S.fc) | ((with_reducible refine gs (t:=27) rfl (L ?_));(first | refine sb (.agg #[_,_]) S sz27 ?_ | refine ro (.agg #[_,_]) S sz27 ?_ (ho:=rfl) (hx:=rfl) (hy:=rfl));clear S F;intro W S;(try rw [← Ny155.out] at S);have F:=S.fc))
     refine bodyPost_ret (results_cell_row rfl _ _ gb153 25 #[.int .i64 a1,.int .i64 a2,.slice Ax155002_1 x155002_1.length cx155002_1] (0,0) _ rfl S.hb Try.underlying25 rfl (by kernel_rfl)) rfl ?_
     exact ⟨_,(by first | rfl | (simp;done) | first | rfl | (simp [e0_,e1_] <;> rfl) | (simp [*,e0_,e1_] <;> rfl)),(by first | exact S.ru | exact Kd.R_nil _ _ _ _ _),(by first | exact S.hb | simpa using S.hb (g:=g)),S.below,S.kept⟩

/-! ### spec_l1Cur_board: function 51 -/
def spec_l1Cur_board.f (k:Nat) (s0_0:List Int) (s0_1:Int) (s0_2:Int):Option (Int × Int × (List (S27)) × Int × Int):=(spec_l1Cur_one.f s0_0 s0_1 s0_2 20).bind fun bt188=>(if bt188.1 = true then ((spec_l1Cur_among.f s0_0 bt188.2.1 bt188.2.2 (([1,10]:List Int))).bind fun bt194=>((spec_l1Cur_among.f s0_0 bt194.2.1 bt194.2.2 (([1,9]:List Int))).bind fun bt200=>((spec_l1Cur_boardOf.f k s0_0 bt200.2.1 bt200.2.2 bt194.1 bt200.1).bind fun bt203=>(some (bt203.1,bt203.2.1,bt203.2.2.1,bt203.2.2.2.1,bt203.2.2.2.2))))) else ((spec_l1Cur_pick.f s0_0 bt188.2.1 bt188.2.2 5).bind fun bt210=>((spec_l1Cur_pick.f s0_0 bt210.2.1 bt210.2.2 5).bind fun bt213=>((spec_l1Cur_boardOf.f k s0_0 bt213.2.1 bt213.2.2 (wrap64 (1 + bt210.1)) (wrap64 (1 + bt213.1))).bind fun bt216=>(some (bt216.1,bt216.2.1,bt216.2.2.1,bt216.2.2.2.1,bt216.2.2.2.2))))))
theorem spec_l1Cur_board.calls (k:Nat) (g:Nat) (s0_0:List Int) (s0_1:Int) (s0_2:Int) (r1:Int) (r2:Int) (r3:List (S27)) (r4:Int) (r5:Int) (As0_0:Option Addr) (cs0_0:Nat) (w0 w:World) (hI:w.heap[g]? = some (.cells #[.slice As0_0 s0_0.length cs0_0,.int .i64 s0_1,.int .u64 s0_2] 51 (0,0))) (hG:w0.heap.size ≤ g) (hS0_0:Kd.C (Kd.int .u8) w0 As0_0 s0_0.length s0_0) (hB:Below w0.heap.size w0 w) (h:spec_l1Cur_board.f k s0_0 s0_1 s0_2 = some (r1,r2,r3,r4,r5)) :
    Calls Try.prog 51 #[.pointer (some ⟨g,0,none⟩)] w fun e w'=>∃ v2_:Value,e = .returned (.agg #[.int .i64 r1,.int .i64 r2,v2_])∧Kd.R k27 27 w' w.heap.size (fun _=>True) v2_ r3∧w'.heap[g]? = some (.cells #[.slice As0_0 s0_0.length cs0_0,.int .i64 r4,.int .u64 r5] 51 (0,0))∧Below w0.heap.size w0 w'∧Kept w w' (fun k_=>k_ = g):=by
 have S:=St.boxed hB hG hI (dg (Kd.heap_int .u8) (atI .u8) hS0_0 hB hG dn)
 clear hI hB
 have F:=S.fc
 have H:=h;clear h;unfold spec_l1Cur_board.f at H
 replace H:=Option.bind_eq_some_iff.mp H;obtain ⟨⟨t188,t189,t190⟩,A2,H⟩:=H;(try dsimp only at H)
 replace H:=sp_ H;rcases H with ⟨c3,H⟩ | ⟨c3,H⟩
 · skip
   subst c3
   (first | (with_reducible replace H:=ob_ H;obtain ⟨y191,hy191,H⟩:=H;(try dsimp only at H)) | (obtain ⟨y191,hy191⟩:∃ y_:List Int,y_ = (([1,10]:List Int)):=⟨_,rfl⟩;(try rw [← hy191] at H);(try simp only [Option.bind_some] at H)));have Ny191:=Aside0.mk hy191;clear hy191
   replace H:=Option.bind_eq_some_iff.mp H;obtain ⟨⟨t194,t195,t196⟩,A4,H⟩:=H;(try dsimp only at H)
   (first | (with_reducible replace H:=ob_ H;obtain ⟨y197,hy197,H⟩:=H;(try dsimp only at H)) | (obtain ⟨y197,hy197⟩:∃ y_:List Int,y_ = (([1,9]:List Int)):=⟨_,rfl⟩;(try rw [← hy197] at H);(try simp only [Option.bind_some] at H)));have Ny197:=Aside0.mk hy197;clear hy197
   replace H:=Option.bind_eq_some_iff.mp H;obtain ⟨⟨t200,t201,t202⟩,A5,H⟩:=H;(try dsimp only at H)
   replace H:=Option.bind_eq_some_iff.mp H;obtain ⟨⟨t203,t204,t205,t208,t209⟩,A6,H⟩:=H;(try dsimp only at H)
   simp only [Option.some.injEq,Prod.mk.injEq] at H
   obtain ⟨rfl,rfl,rfl,rfl,rfl⟩:=H
   go_enter Try.func51,Try.ntmps51
   go_wp2_with (first | ((with_reducible refine gd 2 rfl (L ?_));refine al 2 S zi25 ?_;clear S F;intro gb187 W S;have F:=S.fc) | ((with_reducible refine gate_callee (f:=37) rfl (L ?_));refine cl (some 4) Try.func37 (spec_l1Cur_one.calls g _ _ _ _ _ _ _ _ _ _ _ S.hb (S.hge g) hS0_0 S.below A2) (hargs:=by (simp only [ma_,mb_,mc_,F] <;> rfl)) (h:=?_);rintro e W ⟨rfl,hi,hb,hk⟩;refine ⟨_,rfl,?_⟩;obtain ⟨W_,hs_,hm_,S⟩:=S.mid g hi hb hk;replace S:=S.go hm_;clear F hi hb hk hs_ hm_ ;(try rw [← Ny191.out] at S);(try rw [← Ny197.out] at S);have F:=S.fc) | ((with_reducible refine gd 7 rfl (L ?_));refine lia 7 (atI .i64) 3 S ([1,10]:List Int) (fun _ _=>(Reps.one (show Kd.M (Kd.int .i64) _ _ _ 1 [.int .i64 1] from rfl) (Reps.one (show Kd.M (Kd.int .i64) _ _ _ 10 [.int .i64 10] from rfl) (Reps.none _ _)))) (by first | (go_simp;done) | (go_simp;rfl)) ?_;clear S F;intro Ay191 cy191 W S;(try rw [← Ny191.out] at S ⊢);(try rw [← Ny197.out] at S ⊢);have F:=S.fc) | ((with_reducible refine gate_callee (f:=47) rfl (L ?_));refine cl (some 8) Try.func47 (spec_l1Cur_among.calls g _ _ _ _ _ _ _ _ _ _ _ _ _ S.hb (S.hge g) hS0_0 S.below S.cg S.n A4) (hargs:=by (simp only [ma_,mb_,mc_,F] <;> rfl)) (h:=?_);rintro e W ⟨rfl,hi,hb,hk⟩;refine ⟨_,rfl,?_⟩;obtain ⟨W_,hs_,hm_,S⟩:=S.mid g hi hb hk;replace S:=S.go hm_;clear F hi hb hk hs_ hm_ ;(try rw [← Ny191.out] at S);(try rw [← Ny197.out] at S);have F:=S.fc) | ((with_reducible refine gd 10 rfl (L ?_));refine lia 10 (atI .i64) 3 S ([1,9]:List Int) (fun _ _=>(Reps.one (show Kd.M (Kd.int .i64) _ _ _ 1 [.int .i64 1] from rfl) (Reps.one (show Kd.M (Kd.int .i64) _ _ _ 9 [.int .i64 9] from rfl) (Reps.none _ _)))) (by first | (go_simp;done) | (go_simp;rfl)) ?_;clear S F;intro Ay197 cy197 W S;(try rw [← Ny191.out] at S ⊢);(try rw [← Ny197.out] at S ⊢);have F:=S.fc) | ((with_reducible refine gate_callee (f:=47) rfl (L ?_));refine cl (some 11) Try.func47 (spec_l1Cur_among.calls g _ _ _ _ _ _ _ _ _ _ _ _ _ S.hb (S.hge g) hS0_0 S.below S.cg S.n A5) (hargs:=by (simp only [ma_,mb_,mc_,F] <;> rfl)) (h:=?_);rintro e W ⟨rfl,hi,hb,hk⟩;refine ⟨_,rfl,?_⟩;obtain ⟨W_,hs_,hm_,S⟩:=S.mid g hi hb hk;replace S:=S.go hm_;clear F hi hb hk hs_ hm_ ;(try rw [← Ny191.out] at S);(try rw [← Ny197.out] at S);have F:=S.fc) | ((with_reducible refine gate_callee (f:=40) rfl (L ?_));refine cl (some 12) Try.func40 (spec_l1Cur_boardOf.calls _ g _ _ _ _ _ _ _ _ _ _ _ _ _ _ S.hb (S.hge g) hS0_0 S.below A6) (hargs:=by (simp only [ma_,mb_,mc_,F] <;> rfl)) (h:=?_);rintro e W ⟨v206,rfl,ho0,hi,hb,hk⟩;refine ⟨_,rfl,?_⟩;obtain ⟨W_,hs_,hm_,S⟩:=S.mid g hi hb hk;rw [← hs_] at ho0;replace S:=S.got at27 hm_ ho0;obtain ⟨At205,ct205,rfl,S⟩:=S;clear F hi hb hk hs_ hm_ ho0;(try rw [← Ny191.out] at S);(try rw [← Ny197.out] at S);have F:=S.fc) | ((with_reducible refine gs (t:=25) rfl (L ?_));(first | refine sb (.agg #[_,_,_]) S sz25 ?_ | refine ro (.agg #[_,_,_]) S sz25 ?_ (ho:=rfl) (hx:=rfl) (hy:=rfl));clear S F;intro W S;(try rw [← Ny191.out] at S);(try rw [← Ny197.out] at S);have F:=S.fc))
   refine bodyPost_ret (results_cell_row rfl _ _ gb187 25 #[.int .i64 t203,.int .i64 t204,.slice At205 t205.length ct205] (0,0) _ rfl S.hb Try.underlying25 rfl (by kernel_rfl)) rfl ?_
   exact ⟨_,(by first | rfl | (simp;done) | first | rfl | (simp [e0_,e1_] <;> rfl) | (simp [*,e0_,e1_] <;> rfl)),(by first | exact S.ru | exact Kd.R_nil _ _ _ _ _),(by first | exact S.hb | simpa using S.hb (g:=g)),S.below,S.kept⟩
 · skip
   replace c3:=cbf c3;subst c3
   replace H:=Option.bind_eq_some_iff.mp H;obtain ⟨⟨t210,t211,t212⟩,A21,H⟩:=H;(try dsimp only at H)
   replace H:=Option.bind_eq_some_iff.mp H;obtain ⟨⟨t213,t214,t215⟩,A22,H⟩:=H;(try dsimp only at H)
   replace H:=Option.bind_eq_some_iff.mp H;obtain ⟨⟨t216,t217,t218,t221,t222⟩,A23,H⟩:=H;(try dsimp only at H)
   simp only [Option.some.injEq,Prod.mk.injEq] at H
   obtain ⟨rfl,rfl,rfl,rfl,rfl⟩:=H
   go_enter Try.func51,Try.ntmps51
   go_wp2_with (first | ((with_reducible refine gd 2 rfl (L ?_));refine al 2 S zi25 ?_;clear S F;intro gb187 W S;have F:=S.fc) | ((with_reducible refine gate_callee (f:=37) rfl (L ?_));refine cl (some 4) Try.func37 (spec_l1Cur_one.calls g _ _ _ _ _ _ _ _ _ _ _ S.hb (S.hge g) hS0_0 S.below A2) (hargs:=by (simp only [ma_,mb_,mc_,F] <;> rfl)) (h:=?_);rintro e W ⟨rfl,hi,hb,hk⟩;refine ⟨_,rfl,?_⟩;obtain ⟨W_,hs_,hm_,S⟩:=S.mid g hi hb hk;replace S:=S.go hm_;clear F hi hb hk hs_ hm_ ;have F:=S.fc) | ((with_reducible refine gate_callee (f:=36) rfl (L ?_));refine cl (some 15) Try.func36 (spec_l1Cur_pick.calls g _ _ _ _ _ _ _ _ _ _ _ S.hb (S.hge g) hS0_0 S.below A21) (hargs:=by (simp only [ma_,mb_,mc_,F] <;> rfl)) (h:=?_);rintro e W ⟨rfl,hi,hb,hk⟩;refine ⟨_,rfl,?_⟩;obtain ⟨W_,hs_,hm_,S⟩:=S.mid g hi hb hk;replace S:=S.go hm_;clear F hi hb hk hs_ hm_ ;have F:=S.fc) | ((with_reducible refine gate_callee (f:=36) rfl (L ?_));refine cl (some 18) Try.func36 (spec_l1Cur_pick.calls g _ _ _ _ _ _ _ _ _ _ _ S.hb (S.hge g) hS0_0 S.below A22) (hargs:=by (simp only [ma_,mb_,mc_,F] <;> rfl)) (h:=?_);rintro e W ⟨rfl,hi,hb,hk⟩;refine ⟨_,rfl,?_⟩;obtain ⟨W_,hs_,hm_,S⟩:=S.mid g hi hb hk;replace S:=S.go hm_;clear F hi hb hk hs_ hm_ ;have F:=S.fc) | ((with_reducible refine gate_callee (f:=40) rfl (L ?_));refine cl (some 20) Try.func40 (spec_l1Cur_boardOf.calls _ g _ _ _ _ _ _ _ _ _ _ _ _ _ _ S.hb (S.hge g) hS0_0 S.below A23) (hargs:=by (simp only [ma_,mb_,mc_,F] <;> rfl)) (h:=?_);rintro e W ⟨v219,rfl,ho0,hi,hb,hk⟩;refine ⟨_,rfl,?_⟩;obtain ⟨W_,hs_,hm_,S⟩:=S.mid g hi hb hk;rw [← hs_] at ho0;replace S:=S.got at27 hm_ ho0;obtain ⟨At218,ct218,rfl,S⟩:=S;clear F hi hb hk hs_ hm_ ho0;have F:=S.fc) | ((with_reducible refine gs (t:=25) rfl (L ?_));(first | refine sb (.agg #[_,_,_]) S sz25 ?_ | refine ro (.agg #[_,_,_]) S sz25 ?_ (ho:=rfl) (hx:=rfl) (hy:=rfl));(clear S F;intro W S;have F:=S.fc)))
   refine bodyPost_ret (results_cell_row rfl _ _ gb187 25 #[.int .i64 t216,.int .i64 t217,.slice At218 t218.length ct218] (0,0) _ rfl S.hb Try.underlying25 rfl (by kernel_rfl)) rfl ?_
   exact ⟨_,(by first | rfl | (simp;done) | first | rfl | (simp [e0_,e1_] <;> rfl) | (simp [*,e0_,e1_] <;> rfl)),(by first | exact S.ru | exact Kd.R_nil _ _ _ _ _),(by first | exact S.hb | simpa using S.hb (g:=g)),S.below,S.kept⟩

/-! ### spec_l1Cur_anyBoard: function 26 -/
def spec_l1Cur_anyBoard.f (k:Nat) (s0_0:List Int) (s0_1:Int) (s0_2:Int):Option (Int × Int × (List (S27)) × Int × Int):=(spec_l1Cur_board.f k s0_0 s0_1 s0_2).bind fun bt224=>((spec_l1Cur_pick.f s0_0 bt224.2.2.2.1 bt224.2.2.2.2 36).bind fun bt232=>(if bt232.1 = 0 then ((spec_l1Cur_among.f s0_0 bt232.2.1 bt232.2.2 (([0,wrap64 (bt224.1 + 1),10,11]:List Int))).bind fun bt238=>(some (bt238.1,bt224.2.1,bt224.2.2.1,bt238.2.1,bt238.2.2))) else (if bt232.1 = 1 then ((spec_l1Cur_among.f s0_0 bt232.2.1 bt232.2.2 (([0,wrap64 (bt224.2.1 + 1),9,10]:List Int))).bind fun bt244=>(some (bt224.1,bt244.1,bt224.2.2.1,bt244.2.1,bt244.2.2))) else (if bt232.1 = 2 then ((spec_l1Cur_pick.f s0_0 bt232.2.1 bt232.2.2 (bt224.2.2.1.length:Int)).bind fun bt247=>((spec_l1Cur_anyCell.f k s0_0 bt247.2.1 bt247.2.2).bind fun bt250=>(if 0 ≤ bt247.1 then (if bt247.1 < (bt224.2.2.1.length:Int) then (some (bt224.1,bt224.2.1,(bt224.2.2.1.set (bt247.1:Int).toNat (⟨bt250.1,bt250.2.1⟩:S27)),bt250.2.2.1,bt250.2.2.2)) else (none)) else (none)))) else (if bt232.1 = 3 then (if 1 ≤ (bt224.2.2.1.length:Int) then (some (bt224.1,bt224.2.1,(bt224.2.2.1.drop (1:Int).toNat),bt232.2.1,bt232.2.2)) else (none)) else (if bt232.1 = 4 then (if 22 ≤ 17592186044416 then (some (11,2,(List.replicate 22 z27),bt232.2.1,bt232.2.2)) else (none)) else (if bt232.1 = 5 then (if 20 ≤ 17592186044416 then (some (2,10,(List.replicate 20 z27),bt232.2.1,bt232.2.2)) else (none)) else (some (bt224.1,bt224.2.1,bt224.2.2.1,bt232.2.1,bt232.2.2)))))))))
theorem spec_l1Cur_anyBoard.calls (k:Nat) (g:Nat) (s0_0:List Int) (s0_1:Int) (s0_2:Int) (r1:Int) (r2:Int) (r3:List (S27)) (r4:Int) (r5:Int) (As0_0:Option Addr) (cs0_0:Nat) (w0 w:World) (hI:w.heap[g]? = some (.cells #[.slice As0_0 s0_0.length cs0_0,.int .i64 s0_1,.int .u64 s0_2] 51 (0,0))) (hG:w0.heap.size ≤ g) (hS0_0:Kd.C (Kd.int .u8) w0 As0_0 s0_0.length s0_0) (hB:Below w0.heap.size w0 w) (h:spec_l1Cur_anyBoard.f k s0_0 s0_1 s0_2 = some (r1,r2,r3,r4,r5)) :
    Calls Try.prog 26 #[.pointer (some ⟨g,0,none⟩)] w fun e w'=>∃ v2_:Value,e = .returned (.agg #[.int .i64 r1,.int .i64 r2,v2_])∧Kd.Q k27 27 w' w.heap.size (fun _=>True) v2_ r3∧w'.heap[g]? = some (.cells #[.slice As0_0 s0_0.length cs0_0,.int .i64 r4,.int .u64 r5] 51 (0,0))∧Below w0.heap.size w0 w'∧Kept w w' (fun k_=>k_ = g):=by
 have S:=St.boxed hB hG hI (dg (Kd.heap_int .u8) (atI .u8) hS0_0 hB hG dn)
 clear hI hB
 have F:=S.fc
 have H:=h;clear h;unfold spec_l1Cur_anyBoard.f at H
 replace H:=Option.bind_eq_some_iff.mp H;obtain ⟨⟨t224,t225,t226,t229,t230⟩,A2,H⟩:=H;(try dsimp only at H)
 replace H:=Option.bind_eq_some_iff.mp H;obtain ⟨⟨t232,t233,t234⟩,A3,H⟩:=H;(try dsimp only at H)
 replace H:=sp_ H;rcases H with ⟨c4,H⟩ | ⟨c4,H⟩
 · skip
   replace c4:=ceq c4
   (first | (with_reducible replace H:=ob_ H;obtain ⟨y235,hy235,H⟩:=H;(try dsimp only at H)) | (obtain ⟨y235,hy235⟩:∃ y_:List Int,y_ = (([0,wrap64 (t224 + 1),10,11]:List Int)):=⟨_,rfl⟩;(try rw [← hy235] at H);(try simp only [Option.bind_some] at H)));have Ny235:=Aside0.mk hy235;clear hy235
   replace H:=Option.bind_eq_some_iff.mp H;obtain ⟨⟨t238,t239,t240⟩,A5,H⟩:=H;(try dsimp only at H)
   simp only [Option.some.injEq,Prod.mk.injEq] at H
   obtain ⟨rfl,rfl,rfl,rfl,rfl⟩:=H
   go_enter Try.func26,Try.ntmps26
   go_wp2_with (first | ((with_reducible refine gd 2 rfl (L ?_));refine al 2 S zi25 ?_;clear S F;intro gb223 W S;have F:=S.fc) | ((with_reducible refine gate_callee (f:=51) rfl (L ?_));refine cl (some 5) Try.func51 (spec_l1Cur_board.calls _ g _ _ _ _ _ _ _ _ _ _ _ _ S.hb (S.hge g) hS0_0 S.below A2) (hargs:=by first | (simp only [ma_,mb_,mc_,F] <;> rfl) | (simp only [ma_,mb_,mc_,F,List.length_take,List.length_drop];rw [Nat.min_eq_left] <;> first | rfl | omega)) (h:=?_);rintro e W ⟨v227,rfl,ho0,hi,hb,hk⟩;refine ⟨_,rfl,?_⟩;obtain ⟨W_,hs_,hm_,S⟩:=S.mid g hi hb hk;rw [← hs_] at ho0;replace S:=S.got at27 hm_ ho0;obtain ⟨At226,ct226,rfl,S⟩:=S;clear F hi hb hk hs_ hm_ ho0;(try rw [← Ny235.out] at S);have F:=S.fc) | ((with_reducible refine gd 3 rfl (L ?_));refine al 3 S zi25 ?_;clear S F;intro gb231 W S;have F:=S.fc) | ((with_reducible refine gate_callee (f:=36) rfl (L ?_));refine cl (some 7) Try.func36 (spec_l1Cur_pick.calls g _ _ _ _ _ _ _ _ _ _ _ S.hb (S.hge g) hS0_0 S.below A3) (hargs:=by first | (simp only [ma_,mb_,mc_,F] <;> rfl) | (simp only [ma_,mb_,mc_,F,List.length_take,List.length_drop];rw [Nat.min_eq_left] <;> first | rfl | omega)) (h:=?_);rintro e W ⟨rfl,hi,hb,hk⟩;refine ⟨_,rfl,?_⟩;obtain ⟨W_,hs_,hm_,S⟩:=S.mid g hi hb hk;replace S:=S.go hm_;clear F hi hb hk hs_ hm_ ;(try rw [← Ny235.out] at S);have F:=S.fc) | ((with_reducible refine gd 14 rfl (L ?_));refine lia 14 (atI .i64) 3 S ([0,wrap64 (t224 + 1),10,11]:List Int) (fun _ _=>(Reps.one (show Kd.M (Kd.int .i64) _ _ _ 0 [.int .i64 0] from rfl) (Reps.one (show Kd.M (Kd.int .i64) _ _ _ (wrap64 (t224 + 1)) [.int .i64 (wrap64 (t224 + 1))] from rfl) (Reps.one (show Kd.M (Kd.int .i64) _ _ _ 10 [.int .i64 10] from rfl) (Reps.one (show Kd.M (Kd.int .i64) _ _ _ 11 [.int .i64 11] from rfl) (Reps.none _ _)))))) (by first | (go_simp;done) | (go_simp;rfl)) ?_;clear S F;intro Ay235 cy235 W S;(try rw [← Ny235.out] at S ⊢);have F:=S.fc) | ((with_reducible refine gate_callee (f:=47) rfl (L ?_));refine cl (some 15) Try.func47 (spec_l1Cur_among.calls g _ _ _ _ _ _ _ _ _ _ _ _ _ S.hb (S.hge g) hS0_0 S.below S.cg S.n A5) (hargs:=by first | (simp only [ma_,mb_,mc_,F] <;> rfl) | (simp only [ma_,mb_,mc_,F,List.length_take,List.length_drop];rw [Nat.min_eq_left] <;> first | rfl | omega)) (h:=?_);rintro e W ⟨rfl,hi,hb,hk⟩;refine ⟨_,rfl,?_⟩;obtain ⟨W_,hs_,hm_,S⟩:=S.mid g hi hb hk;replace S:=S.go hm_;clear F hi hb hk hs_ hm_ ;(try rw [← Ny235.out] at S);have F:=S.fc) | ((with_reducible refine gs (t:=3) rfl (L ?_));(first | refine sb (.int _ _) S sz3 ?_ | refine ro (.int _ _) S sz3 ?_ (ho:=rfl) (hx:=rfl) (hy:=rfl));clear S F;intro W S;(try simp only [gd27] at S);(try rw [← Ny235.out] at S);have F:=S.fc) | ((with_reducible refine gs (t:=23) rfl (L ?_));(first | refine sb (.slice _ _ _) S sz23 ?_ | refine ro (.slice _ _ _) S sz23 ?_ (ho:=rfl) (hx:=rfl) (hy:=rfl));clear S F;intro W S;(try simp only [gd27] at S);(try rw [← Ny235.out] at S);have F:=S.fc) | ((with_reducible refine gs (t:=25) rfl (L ?_));(first | refine sb (.agg #[_,_,_]) S sz25 ?_ | refine ro (.agg #[_,_,_]) S sz25 ?_ (ho:=rfl) (hx:=rfl) (hy:=rfl));clear S F;intro W S;(try simp only [gd27] at S);(try rw [← Ny235.out] at S);have F:=S.fc) | ((with_reducible refine gs (t:=27) rfl (L ?_));(first | refine sb (.agg #[_,_]) S sz27 ?_ | refine ro (.agg #[_,_]) S sz27 ?_ (ho:=rfl) (hx:=rfl) (hy:=rfl));clear S F;intro W S;(try simp only [gd27] at S);(try rw [← Ny235.out] at S);have F:=S.fc))
   refine bodyPost_ret (results_cell_row rfl _ _ gb223 25 #[.int .i64 t238,.int .i64 t225,.slice At226 t226.length ct226] (0,0) _ rfl S.hb Try.underlying25 rfl (by kernel_rfl)) rfl ?_
   exact ⟨_,(by first | rfl | (simp;done) | first | rfl | (simp [e0_,e1_] <;> rfl) | (simp [*,e0_,e1_] <;> rfl)),(by first | exact S.qu | exact Kd.Q_of_R S.ru | exact Kd.Q_nil _ _ _ _ _),(by first | exact S.hb | simpa using S.hb (g:=g)),S.below,S.kept⟩
 · skip
   replace c4:=cne c4
   replace H:=sp_ H;rcases H with ⟨c22,H⟩ | ⟨c22,H⟩
   · skip
     replace c22:=ceq c22
     (first | (with_reducible replace H:=ob_ H;obtain ⟨y241,hy241,H⟩:=H;(try dsimp only at H)) | (obtain ⟨y241,hy241⟩:∃ y_:List Int,y_ = (([0,wrap64 (t225 + 1),9,10]:List Int)):=⟨_,rfl⟩;(try rw [← hy241] at H);(try simp only [Option.bind_some] at H)));have Ny241:=Aside0.mk hy241;clear hy241
     replace H:=Option.bind_eq_some_iff.mp H;obtain ⟨⟨t244,t245,t246⟩,A23,H⟩:=H;(try dsimp only at H)
     simp only [Option.some.injEq,Prod.mk.injEq] at H
     obtain ⟨rfl,rfl,rfl,rfl,rfl⟩:=H
     go_enter Try.func26,Try.ntmps26
     go_wp2_with (first | ((with_reducible refine gd 2 rfl (L ?_));refine al 2 S zi25 ?_;clear S F;intro gb223 W S;have F:=S.fc) | ((with_reducible refine gate_callee (f:=51) rfl (L ?_));refine cl (some 5) Try.func51 (spec_l1Cur_board.calls _ g _ _ _ _ _ _ _ _ _ _ _ _ S.hb (S.hge g) hS0_0 S.below A2) (hargs:=by first | (simp only [ma_,mb_,mc_,F] <;> rfl) | (simp only [ma_,mb_,mc_,F,List.length_take,List.length_drop];rw [Nat.min_eq_left] <;> first | rfl | omega)) (h:=?_);rintro e W ⟨v227,rfl,ho0,hi,hb,hk⟩;refine ⟨_,rfl,?_⟩;obtain ⟨W_,hs_,hm_,S⟩:=S.mid g hi hb hk;rw [← hs_] at ho0;replace S:=S.got at27 hm_ ho0;obtain ⟨At226,ct226,rfl,S⟩:=S;clear F hi hb hk hs_ hm_ ho0;(try rw [← Ny241.out] at S);have F:=S.fc) | ((with_reducible refine gd 3 rfl (L ?_));refine al 3 S zi25 ?_;clear S F;intro gb231 W S;have F:=S.fc) | ((with_reducible refine gate_callee (f:=36) rfl (L ?_));refine cl (some 7) Try.func36 (spec_l1Cur_pick.calls g _ _ _ _ _ _ _ _ _ _ _ S.hb (S.hge g) hS0_0 S.below A3) (hargs:=by first | (simp only [ma_,mb_,mc_,F] <;> rfl) | (simp only [ma_,mb_,mc_,F,List.length_take,List.length_drop];rw [Nat.min_eq_left] <;> first | rfl | omega)) (h:=?_);rintro e W ⟨rfl,hi,hb,hk⟩;refine ⟨_,rfl,?_⟩;obtain ⟨W_,hs_,hm_,S⟩:=S.mid g hi hb hk;replace S:=S.go hm_;clear F hi hb hk hs_ hm_ ;(try rw [← Ny241.out] at S);have F:=S.fc) | ((with_reducible refine gd 23 rfl (L ?_));refine lia 23 (atI .i64) 3 S ([0,wrap64 (t225 + 1),9,10]:List Int) (fun _ _=>(Reps.one (show Kd.M (Kd.int .i64) _ _ _ 0 [.int .i64 0] from rfl) (Reps.one (show Kd.M (Kd.int .i64) _ _ _ (wrap64 (t225 + 1)) [.int .i64 (wrap64 (t225 + 1))] from rfl) (Reps.one (show Kd.M (Kd.int .i64) _ _ _ 9 [.int .i64 9] from rfl) (Reps.one (show Kd.M (Kd.int .i64) _ _ _ 10 [.int .i64 10] from rfl) (Reps.none _ _)))))) (by first | (go_simp;done) | (go_simp;rfl)) ?_;clear S F;intro Ay241 cy241 W S;(try rw [← Ny241.out] at S ⊢);have F:=S.fc) | ((with_reducible refine gate_callee (f:=47) rfl (L ?_));refine cl (some 24) Try.func47 (spec_l1Cur_among.calls g _ _ _ _ _ _ _ _ _ _ _ _ _ S.hb (S.hge g) hS0_0 S.below S.cg S.n A23) (hargs:=by first | (simp only [ma_,mb_,mc_,F] <;> rfl) | (simp only [ma_,mb_,mc_,F,List.length_take,List.length_drop];rw [Nat.min_eq_left] <;> first | rfl | omega)) (h:=?_);rintro e W ⟨rfl,hi,hb,hk⟩;refine ⟨_,rfl,?_⟩;obtain ⟨W_,hs_,hm_,S⟩:=S.mid g hi hb hk;replace S:=S.go hm_;clear F hi hb hk hs_ hm_ ;(try rw [← Ny241.out] at S);have F:=S.fc) | ((with_reducible refine gs (t:=3) rfl (L ?_));(first | refine sb (.int _ _) S sz3 ?_ | refine ro (.int _ _) S sz3 ?_ (ho:=rfl) (hx:=rfl) (hy:=rfl));clear S F;intro W S;(try simp only [gd27] at S);(try rw [← Ny241.out] at S);have F:=S.fc) | ((with_reducible refine gs (t:=23) rfl (L ?_));(first | refine sb (.slice _ _ _) S sz23 ?_ | refine ro (.slice _ _ _) S sz23 ?_ (ho:=rfl) (hx:=rfl) (hy:=rfl));clear S F;intro W S;(try simp only [gd27] at S);(try rw [← Ny241.out] at S);have F:=S.fc) | ((with_reducible refine gs (t:=25) rfl (L ?_));(first | refine sb (.agg #[_,_,_]) S sz25 ?_ | refine ro (.agg #[_,_,_]) S sz25 ?_ (ho:=rfl) (hx:=rfl) (hy:=rfl));clear S F;intro W S;(try simp only [gd27] at S);(try rw [← Ny241.out] at S);have F:=S.fc) | ((with_reducible refine gs (t:=27) rfl (L ?_));(first | refine sb (.agg #[_,_]) S sz27 ?_ | refine ro (.agg #[_,_]) S sz27 ?_ (ho:=rfl) (hx:=rfl) (hy:=rfl));clear S F;intro W S;(try simp only [gd27] at S);(try rw [← Ny241.out] at S);have F:=S.fc))
     refine bodyPost_ret (results_cell_row rfl _ _ gb223 25 #[.int .i64 t224,.int .i64 t244,.slice At226 t226.length ct226] (0,0) _ rfl S.hb Try.underlying25 rfl (by kernel_rfl)) rfl ?_
     exact ⟨_,(by first | rfl | (simp;done) | first | rfl | (simp [e0_,e1_] <;> rfl) | (simp [*,e0_,e1_] <;> rfl)),(by first | exact S.qu | exact Kd.Q_of_R S.ru | exact Kd.Q_nil _ _ _ _ _),(by first | exact S.hb | simpa using S.hb (g:=g)),S.below,S.kept⟩
   · skip
     replace c22:=cne c22
     replace H:=sp_ H;rcases H with ⟨c40,H⟩ | ⟨c40,H⟩
     · skip
       replace c40:=ceq c40
       replace H:=Option.bind_eq_some_iff.mp H;obtain ⟨⟨t247,t248,t249⟩,A41,H⟩:=H;(try dsimp only at H)
       replace H:=Option.bind_eq_some_iff.mp H;obtain ⟨⟨t250,t251,t252,t253⟩,A42,H⟩:=H;(try dsimp only at H)
       replace H:=np_ H;obtain ⟨c43,H⟩:=H
       replace H:=np_ H;obtain ⟨c44,H⟩:=H
       (first | (with_reducible replace H:=ob_ H;obtain ⟨y254,hy254,H⟩:=H;(try dsimp only at H)) | (obtain ⟨y254,hy254⟩:∃ y_:List (S27),y_ = (t226.set (t247:Int).toNat (⟨t250,t251⟩:S27)):=⟨_,rfl⟩;(try rw [← hy254] at H);(try simp only [Option.bind_some] at H)));have Ny254:=Aside0.mk hy254;clear hy254
       simp only [Option.some.injEq,Prod.mk.injEq] at H
       obtain ⟨rfl,rfl,rfl,rfl,rfl⟩:=H
       go_enter Try.func26,Try.ntmps26
       go_wp2_with (first | ((with_reducible refine gd 2 rfl (L ?_));refine al 2 S zi25 ?_;clear S F;intro gb223 W S;have F:=S.fc) | ((with_reducible refine gate_callee (f:=51) rfl (L ?_));refine cl (some 5) Try.func51 (spec_l1Cur_board.calls _ g _ _ _ _ _ _ _ _ _ _ _ _ S.hb (S.hge g) hS0_0 S.below A2) (hargs:=by first | (simp only [ma_,mb_,mc_,F] <;> rfl) | (simp only [ma_,mb_,mc_,F,List.length_take,List.length_drop];rw [Nat.min_eq_left] <;> first | rfl | omega)) (h:=?_);rintro e W ⟨v227,rfl,ho0,hi,hb,hk⟩;refine ⟨_,rfl,?_⟩;obtain ⟨W_,hs_,hm_,S⟩:=S.mid g hi hb hk;rw [← hs_] at ho0;replace S:=S.got at27 hm_ ho0;obtain ⟨At226,ct226,rfl,S⟩:=S;clear F hi hb hk hs_ hm_ ho0;(try rw [← Ny254.out] at S);have F:=S.fc) | ((with_reducible refine gd 3 rfl (L ?_));refine al 3 S zi25 ?_;clear S F;intro gb231 W S;have F:=S.fc) | ((with_reducible refine gate_callee (f:=36) rfl (L ?_));refine cl (some 7) Try.func36 (spec_l1Cur_pick.calls g _ _ _ _ _ _ _ _ _ _ _ S.hb (S.hge g) hS0_0 S.below A3) (hargs:=by first | (simp only [ma_,mb_,mc_,F] <;> rfl) | (simp only [ma_,mb_,mc_,F,List.length_take,List.length_drop];rw [Nat.min_eq_left] <;> first | rfl | omega)) (h:=?_);rintro e W ⟨rfl,hi,hb,hk⟩;refine ⟨_,rfl,?_⟩;obtain ⟨W_,hs_,hm_,S⟩:=S.mid g hi hb hk;replace S:=S.go hm_;clear F hi hb hk hs_ hm_ ;(try rw [← Ny254.out] at S);have F:=S.fc) | ((with_reducible refine gs (t:=3) rfl (L ?_));(first | refine sb (.int _ _) S sz3 ?_ | refine ro (.int _ _) S sz3 ?_ (ho:=rfl) (hx:=rfl) (hy:=rfl));clear S F;intro W S;(try simp only [gd27] at S);(try rw [← Ny254.out] at S);have F:=S.fc) | ((with_reducible refine gs (t:=23) rfl (L ?_));(first | refine sb (.slice _ _ _) S sz23 ?_ | refine ro (.slice _ _ _) S sz23 ?_ (ho:=rfl) (hx:=rfl) (hy:=rfl));clear S F;intro W S;(try simp only [gd27] at S);(try rw [← Ny254.out] at S);have F:=S.fc) | ((with_reducible refine gs (t:=25) rfl (L ?_));(first | refine sb (.agg #[_,_,_]) S sz25 ?_ | refine ro (.agg #[_,_,_]) S sz25 ?_ (ho:=rfl) (hx:=rfl) (hy:=rfl));clear S F;intro W S;(try simp only [gd27] at S);(try rw [← Ny254.out] at S);have F:=S.fc) | ((with_reducible refine gs (t:=27) rfl (L ?_));(first | refine sb (.agg #[_,_]) S sz27 ?_ | refine ro (.agg #[_,_]) S sz27 ?_ (ho:=rfl) (hx:=rfl) (hy:=rfl));clear S F;intro W S;(try simp only [gd27] at S);(try rw [← Ny254.out] at S);have F:=S.fc))
       refine rgP S (fun _ S=>(S.pm [0,1,2])) [(0,0),(0,2),(0,3),(0,7),(1,1),(1,4),(0,5),(2,6),(2,8),(0,9),(3,10)] [10] (by kernel_rfl) (by kernel_rfl) (fun _ d _ _ _ h=>by cases d <;> exact h) ?_;clear S F;intro W S;have S0:=(S.pm [0,1,2]);have F:=S.fc
       repeat (first | (refine q0 (h:=?_)) | (refine q1 S0 (h:=?_)) | (refine q0n (h:=?_)) | (refine q1n S0 (h:=?_)))
       refine lk2 (by rfl) (by exact (Eq.refl true)) ?_;refine cl (some 34) Try.func36 (spec_l1Cur_pick.calls g _ _ _ _ _ _ _ _ _ _ _ S.hb (S.hge g) hS0_0 S.below A41) (hargs:=by first | (simp only [ma_,mb_,mc_,F] <;> rfl) | (simp only [ma_,mb_,mc_,F,List.length_take,List.length_drop];rw [Nat.min_eq_left] <;> first | rfl | omega)) (h:=?_);rintro e W ⟨rfl,hi,hb,hk⟩;refine ⟨_,rfl,?_⟩;obtain ⟨W_,hs_,hm_,S⟩:=S.mid g hi hb hk;replace S:=S.go hm_;clear F hi hb hk hs_ hm_ ;(try rw [← Ny254.out] at S);have F:=S.fc
       clear S0;have S0:=(S.pm [0,1,2]);refine ⟨S0,?_⟩
       refine lk2 (by rfl) (by exact (Eq.refl true)) ?_;refine cl (some 36) Try.func29 (spec_l1Cur_anyCell.calls _ g _ _ _ _ _ _ _ _ _ _ _ S.hb (S.hge g) hS0_0 S.below A42) (hargs:=by first | (simp only [ma_,mb_,mc_,F] <;> rfl) | (simp only [ma_,mb_,mc_,F,List.length_take,List.length_drop];rw [Nat.min_eq_left] <;> first | rfl | omega)) (h:=?_);rintro e W ⟨rfl,hi,hb,hk⟩;refine ⟨_,rfl,?_⟩;obtain ⟨W_,hs_,hm_,S⟩:=S.mid g hi hb hk;replace S:=S.go hm_;clear F hi hb hk hs_ hm_ ;(try rw [← Ny254.out] at S);have F:=S.fc
       clear S0;have S0:=(S.pm [0,1,2]);refine ⟨S0,?_⟩
       repeat (first | (refine q0 (h:=?_)) | (refine q1 S0 (h:=?_)) | (refine q0n (h:=?_)) | (refine q1n S0 (h:=?_)))
       refine lk3 (by rfl) (by exact (Eq.refl true)) ?_;(first | refine sb (.int _ _) S sz3 ?_ | refine ro (.int _ _) S sz3 ?_ (ho:=rfl) (hx:=rfl) (hy:=rfl) | refine sb (.slice _ _ _) S sz23 ?_ | refine ro (.slice _ _ _) S sz23 ?_ (ho:=rfl) (hx:=rfl) (hy:=rfl) | refine sb (.agg #[_,_,_]) S sz25 ?_ | refine ro (.agg #[_,_,_]) S sz25 ?_ (ho:=rfl) (hx:=rfl) (hy:=rfl) | refine sb (.agg #[_,_]) S sz27 ?_ | refine ro (.agg #[_,_]) S sz27 ?_ (ho:=rfl) (hx:=rfl) (hy:=rfl));clear S F;intro W S;(try simp only [gd27] at S);(try rw [← Ny254.out] at S);have F:=S.fc
       refine oz ?_
       try clear S0
       go_wp2_with (first | ((with_reducible refine gs (t:=3) rfl (L ?_));(first | refine sb (.int _ _) S sz3 ?_ | refine ro (.int _ _) S sz3 ?_ (ho:=rfl) (hx:=rfl) (hy:=rfl));clear S F;intro W S;(try simp only [gd27] at S);(try rw [← Ny254.out] at S);have F:=S.fc) | ((with_reducible refine gs (t:=23) rfl (L ?_));(first | refine sb (.slice _ _ _) S sz23 ?_ | refine ro (.slice _ _ _) S sz23 ?_ (ho:=rfl) (hx:=rfl) (hy:=rfl));clear S F;intro W S;(try simp only [gd27] at S);(try rw [← Ny254.out] at S);have F:=S.fc) | ((with_reducible refine gs (t:=25) rfl (L ?_));(first | refine sb (.agg #[_,_,_]) S sz25 ?_ | refine ro (.agg #[_,_,_]) S sz25 ?_ (ho:=rfl) (hx:=rfl) (hy:=rfl));clear S F;intro W S;(try simp only [gd27] at S);(try rw [← Ny254.out] at S);have F:=S.fc) | ((with_reducible refine gs (t:=27) rfl (L ?_));(first | refine sb (.agg #[_,_]) S sz27 ?_ | refine ro (.agg #[_,_]) S sz27 ?_ (ho:=rfl) (hx:=rfl) (hy:=rfl));clear S F;intro W S;(try simp only [gd27] at S);(try rw [← Ny254.out] at S);have F:=S.fc))
       refine bodyPost_ret (results_cell_row rfl _ _ gb223 25 #[.int .i64 t224,.int .i64 t225,.slice At226 t226.length ct226] (0,0) _ rfl S.hb Try.underlying25 rfl (by kernel_rfl)) rfl ?_
       exact ⟨_,(by first | rfl | (simp;done) | first | rfl | (simp [e0_,e1_] <;> rfl) | (simp [*,e0_,e1_] <;> rfl)),(by first | exact S.qu | exact Kd.Q_of_R S.ru | exact Kd.Q_nil _ _ _ _ _),(by first | exact S.hb | simpa using S.hb (g:=g)),S.below,S.kept⟩
     · skip
       replace c40:=cne c40
       replace H:=sp_ H;rcases H with ⟨c62,H⟩ | ⟨c62,H⟩
       · skip
         replace c62:=ceq c62
         replace H:=np_ H;obtain ⟨c63,H⟩:=H
         (first | (with_reducible replace H:=ob_ H;obtain ⟨y255,hy255,H⟩:=H;(try dsimp only at H)) | (obtain ⟨y255,hy255⟩:∃ y_:List (S27),y_ = (t226.drop (1:Int).toNat):=⟨_,rfl⟩;(try rw [← hy255] at H);(try simp only [Option.bind_some] at H)));have Ny255:=Aside0.mk hy255;clear hy255
         simp only [Option.some.injEq,Prod.mk.injEq] at H
         obtain ⟨rfl,rfl,rfl,rfl,rfl⟩:=H
         go_enter Try.func26,Try.ntmps26
         go_wp2_with (first | ((with_reducible refine gd 2 rfl (L ?_));refine al 2 S zi25 ?_;clear S F;intro gb223 W S;have F:=S.fc) | ((with_reducible refine gate_callee (f:=51) rfl (L ?_));refine cl (some 5) Try.func51 (spec_l1Cur_board.calls _ g _ _ _ _ _ _ _ _ _ _ _ _ S.hb (S.hge g) hS0_0 S.below A2) (hargs:=by first | (simp only [ma_,mb_,mc_,F] <;> rfl) | (simp only [ma_,mb_,mc_,F,List.length_take,List.length_drop];rw [Nat.min_eq_left] <;> first | rfl | omega)) (h:=?_);rintro e W ⟨v227,rfl,ho0,hi,hb,hk⟩;refine ⟨_,rfl,?_⟩;obtain ⟨W_,hs_,hm_,S⟩:=S.mid g hi hb hk;rw [← hs_] at ho0;replace S:=S.got at27 hm_ ho0;obtain ⟨At226,ct226,rfl,S⟩:=S;clear F hi hb hk hs_ hm_ ho0;(try rw [← Ny255.out] at S);have F:=S.fc) | ((with_reducible refine gd 3 rfl (L ?_));refine al 3 S zi25 ?_;clear S F;intro gb231 W S;have F:=S.fc) | ((with_reducible refine gate_callee (f:=36) rfl (L ?_));refine cl (some 7) Try.func36 (spec_l1Cur_pick.calls g _ _ _ _ _ _ _ _ _ _ _ S.hb (S.hge g) hS0_0 S.below A3) (hargs:=by first | (simp only [ma_,mb_,mc_,F] <;> rfl) | (simp only [ma_,mb_,mc_,F,List.length_take,List.length_drop];rw [Nat.min_eq_left] <;> first | rfl | omega)) (h:=?_);rintro e W ⟨rfl,hi,hb,hk⟩;refine ⟨_,rfl,?_⟩;obtain ⟨W_,hs_,hm_,S⟩:=S.mid g hi hb hk;replace S:=S.go hm_;clear F hi hb hk hs_ hm_ ;(try rw [← Ny255.out] at S);have F:=S.fc;have hcut73:=cut_from (P:=Try.prog) 23 27 .i64 Try.underlying23 (info_parts info27).choose_spec.1 2 (info_parts info27).choose_spec.2.2.1 At226 t226.length ct226 1 (by omega) (by omega);replace S:=S.tq At226;obtain ⟨A73,c73,e_,S⟩:=S.dq At226 (1:Int).toNat (by omega) 2 rfl y255 Ny255.out;rw [e_] at hcut73;clear e_ F;have F:=S.fc) | ((with_reducible refine gs (t:=3) rfl (L ?_));(first | refine sb (.int _ _) S sz3 ?_ | refine ro (.int _ _) S sz3 ?_ (ho:=rfl) (hx:=rfl) (hy:=rfl));clear S F;intro W S;(try simp only [gd27] at S);(try rw [← Ny255.out] at S);have F:=S.fc) | ((with_reducible refine gs (t:=23) rfl (L ?_));(first | refine sb (.slice _ _ _) S sz23 ?_ | refine ro (.slice _ _ _) S sz23 ?_ (ho:=rfl) (hx:=rfl) (hy:=rfl));clear S F;intro W S;(try simp only [gd27] at S);(try rw [← Ny255.out] at S);have F:=S.fc) | ((with_reducible refine gs (t:=25) rfl (L ?_));(first | refine sb (.agg #[_,_,_]) S sz25 ?_ | refine ro (.agg #[_,_,_]) S sz25 ?_ (ho:=rfl) (hx:=rfl) (hy:=rfl));clear S F;intro W S;(try simp only [gd27] at S);(try rw [← Ny255.out] at S);have F:=S.fc) | ((with_reducible refine gs (t:=27) rfl (L ?_));(first | refine sb (.agg #[_,_]) S sz27 ?_ | refine ro (.agg #[_,_]) S sz27 ?_ (ho:=rfl) (hx:=rfl) (hy:=rfl));clear S F;intro W S;(try simp only [gd27] at S);(try rw [← Ny255.out] at S);have F:=S.fc))
         refine bodyPost_ret (results_cell_row rfl _ _ gb223 25 #[.int .i64 t224,.int .i64 t225,.slice A73 y255.length c73] (0,0) _ rfl S.hb Try.underlying25 rfl (by kernel_rfl)) rfl ?_
         exact ⟨_,(by first | rfl | (simp;done) | first | rfl | (simp [e0_,e1_] <;> rfl) | (simp [*,e0_,e1_] <;> rfl)),(by first | exact S.qu | exact Kd.Q_of_R S.ru | exact Kd.Q_nil _ _ _ _ _),(by first | exact S.hb | simpa using S.hb (g:=g)),S.below,S.kept⟩
       · skip
         replace c62:=cne c62
         replace H:=sp_ H;rcases H with ⟨c76,H⟩ | ⟨c76,H⟩
         · skip
           replace c76:=ceq c76
           replace H:=np_ H;obtain ⟨c77,H⟩:=H
           (first | (with_reducible replace H:=ob_ H;obtain ⟨y258,hy258,H⟩:=H;(try dsimp only at H)) | (obtain ⟨y258,hy258⟩:∃ y_:List (S27),y_ = (List.replicate 22 z27):=⟨_,rfl⟩;(try rw [← hy258] at H);(try simp only [Option.bind_some] at H)));have Ny258:=Aside0.mk hy258;clear hy258
           simp only [Option.some.injEq,Prod.mk.injEq] at H
           obtain ⟨rfl,rfl,rfl,rfl,rfl⟩:=H
           go_enter Try.func26,Try.ntmps26
           go_wp2_with (first | ((with_reducible refine gd 2 rfl (L ?_));refine al 2 S zi25 ?_;clear S F;intro gb223 W S;have F:=S.fc) | ((with_reducible refine gate_callee (f:=51) rfl (L ?_));refine cl (some 5) Try.func51 (spec_l1Cur_board.calls _ g _ _ _ _ _ _ _ _ _ _ _ _ S.hb (S.hge g) hS0_0 S.below A2) (hargs:=by first | (simp only [ma_,mb_,mc_,F] <;> rfl) | (simp only [ma_,mb_,mc_,F,List.length_take,List.length_drop];rw [Nat.min_eq_left] <;> first | rfl | omega)) (h:=?_);rintro e W ⟨v227,rfl,ho0,hi,hb,hk⟩;refine ⟨_,rfl,?_⟩;obtain ⟨W_,hs_,hm_,S⟩:=S.mid g hi hb hk;rw [← hs_] at ho0;replace S:=S.got at27 hm_ ho0;obtain ⟨At226,ct226,rfl,S⟩:=S;clear F hi hb hk hs_ hm_ ho0;(try rw [← Ny258.out] at S);have F:=S.fc) | ((with_reducible refine gd 3 rfl (L ?_));refine al 3 S zi25 ?_;clear S F;intro gb231 W S;have F:=S.fc) | ((with_reducible refine gate_callee (f:=36) rfl (L ?_));refine cl (some 7) Try.func36 (spec_l1Cur_pick.calls g _ _ _ _ _ _ _ _ _ _ _ S.hb (S.hge g) hS0_0 S.below A3) (hargs:=by first | (simp only [ma_,mb_,mc_,F] <;> rfl) | (simp only [ma_,mb_,mc_,F,List.length_take,List.length_drop];rw [Nat.min_eq_left] <;> first | rfl | omega)) (h:=?_);rintro e W ⟨rfl,hi,hb,hk⟩;refine ⟨_,rfl,?_⟩;obtain ⟨W_,hs_,hm_,S⟩:=S.mid g hi hb hk;replace S:=S.go hm_;clear F hi hb hk hs_ hm_ ;(try rw [← Ny258.out] at S);have F:=S.fc) | ((with_reducible refine gd 46 rfl (L ?_));refine mka 46 at27 S Try.underlying23 info27 ?_;clear S F;intro Ay258 cy258 W S;(try simp only [Int.reduceToNat] at S ⊢);(try rw [← Ny258.out] at S ⊢);have F:=S.fc) | ((with_reducible refine gs (t:=3) rfl (L ?_));(first | refine sb (.int _ _) S sz3 ?_ | refine ro (.int _ _) S sz3 ?_ (ho:=rfl) (hx:=rfl) (hy:=rfl));clear S F;intro W S;(try simp only [gd27] at S);(try rw [← Ny258.out] at S);have F:=S.fc) | ((with_reducible refine gs (t:=23) rfl (L ?_));(first | refine sb (.slice _ _ _) S sz23 ?_ | refine ro (.slice _ _ _) S sz23 ?_ (ho:=rfl) (hx:=rfl) (hy:=rfl));clear S F;intro W S;(try simp only [gd27] at S);(try rw [← Ny258.out] at S);have F:=S.fc) | ((with_reducible refine gs (t:=25) rfl (L ?_));(first | refine sb (.agg #[_,_,_]) S sz25 ?_ | refine ro (.agg #[_,_,_]) S sz25 ?_ (ho:=rfl) (hx:=rfl) (hy:=rfl));clear S F;intro W S;(try simp only [gd27] at S);(try rw [← Ny258.out] at S);have F:=S.fc) | ((with_reducible refine gs (t:=27) rfl (L ?_));(first | refine sb (.agg #[_,_]) S sz27 ?_ | refine ro (.agg #[_,_]) S sz27 ?_ (ho:=rfl) (hx:=rfl) (hy:=rfl));clear S F;intro W S;(try simp only [gd27] at S);(try rw [← Ny258.out] at S);have F:=S.fc))
           refine bodyPost_ret (results_cell_row rfl _ _ gb223 25 #[.int .i64 11,.int .i64 2,.slice Ay258 y258.length cy258] (0,0) _ rfl S.hb Try.underlying25 rfl (by kernel_rfl)) rfl ?_
           exact ⟨_,(by first | rfl | (simp;done) | first | rfl | (simp [e0_,e1_] <;> rfl) | (simp [*,e0_,e1_] <;> rfl)),(by first | exact S.qu | exact Kd.Q_of_R S.ru | exact Kd.Q_nil _ _ _ _ _),(by first | exact S.hb | simpa using S.hb (g:=g)),S.below,S.kept⟩
         · skip
           replace c76:=cne c76
           replace H:=sp_ H;rcases H with ⟨c92,H⟩ | ⟨c92,H⟩
           · skip
             replace c92:=ceq c92
             replace H:=np_ H;obtain ⟨c93,H⟩:=H
             (first | (with_reducible replace H:=ob_ H;obtain ⟨y261,hy261,H⟩:=H;(try dsimp only at H)) | (obtain ⟨y261,hy261⟩:∃ y_:List (S27),y_ = (List.replicate 20 z27):=⟨_,rfl⟩;(try rw [← hy261] at H);(try simp only [Option.bind_some] at H)));have Ny261:=Aside0.mk hy261;clear hy261
             simp only [Option.some.injEq,Prod.mk.injEq] at H
             obtain ⟨rfl,rfl,rfl,rfl,rfl⟩:=H
             go_enter Try.func26,Try.ntmps26
             go_wp2_with (first | ((with_reducible refine gd 2 rfl (L ?_));refine al 2 S zi25 ?_;clear S F;intro gb223 W S;have F:=S.fc) | ((with_reducible refine gate_callee (f:=51) rfl (L ?_));refine cl (some 5) Try.func51 (spec_l1Cur_board.calls _ g _ _ _ _ _ _ _ _ _ _ _ _ S.hb (S.hge g) hS0_0 S.below A2) (hargs:=by first | (simp only [ma_,mb_,mc_,F] <;> rfl) | (simp only [ma_,mb_,mc_,F,List.length_take,List.length_drop];rw [Nat.min_eq_left] <;> first | rfl | omega)) (h:=?_);rintro e W ⟨v227,rfl,ho0,hi,hb,hk⟩;refine ⟨_,rfl,?_⟩;obtain ⟨W_,hs_,hm_,S⟩:=S.mid g hi hb hk;rw [← hs_] at ho0;replace S:=S.got at27 hm_ ho0;obtain ⟨At226,ct226,rfl,S⟩:=S;clear F hi hb hk hs_ hm_ ho0;(try rw [← Ny261.out] at S);have F:=S.fc) | ((with_reducible refine gd 3 rfl (L ?_));refine al 3 S zi25 ?_;clear S F;intro gb231 W S;have F:=S.fc) | ((with_reducible refine gate_callee (f:=36) rfl (L ?_));refine cl (some 7) Try.func36 (spec_l1Cur_pick.calls g _ _ _ _ _ _ _ _ _ _ _ S.hb (S.hge g) hS0_0 S.below A3) (hargs:=by first | (simp only [ma_,mb_,mc_,F] <;> rfl) | (simp only [ma_,mb_,mc_,F,List.length_take,List.length_drop];rw [Nat.min_eq_left] <;> first | rfl | omega)) (h:=?_);rintro e W ⟨rfl,hi,hb,hk⟩;refine ⟨_,rfl,?_⟩;obtain ⟨W_,hs_,hm_,S⟩:=S.mid g hi hb hk;replace S:=S.go hm_;clear F hi hb hk hs_ hm_ ;(try rw [← Ny261.out] at S);have F:=S.fc) | ((with_reducible refine gd 50 rfl (L ?_));refine mka 50 at27 S Try.underlying23 info27 ?_;clear S F;intro Ay261 cy261 W S;(try simp only [Int.reduceToNat] at S ⊢);(try rw [← Ny261.out] at S ⊢);have F:=S.fc) | ((with_reducible refine gs (t:=3) rfl (L ?_));(first | refine sb (.int _ _) S sz3 ?_ | refine ro (.int _ _) S sz3 ?_ (ho:=rfl) (hx:=rfl) (hy:=rfl));clear S F;intro W S;(try simp only [gd27] at S);(try rw [← Ny261.out] at S);have F:=S.fc) | ((with_reducible refine gs (t:=23) rfl (L ?_));(first | refine sb (.slice _ _ _) S sz23 ?_ | refine ro (.slice _ _ _) S sz23 ?_ (ho:=rfl) (hx:=rfl) (hy:=rfl));clear S F;intro W S;(try simp only [gd27] at S);(try rw [← Ny261.out] at S);have F:=S.fc) | ((with_reducible refine gs (t:=25) rfl (L ?_));(first | refine sb (.agg #[_,_,_]) S sz25 ?_ | refine ro (.agg #[_,_,_]) S sz25 ?_ (ho:=rfl) (hx:=rfl) (hy:=rfl));clear S F;intro W S;(try simp only [gd27] at S);(try rw [← Ny261.out] at S);have F:=S.fc) | ((with_reducible refine gs (t:=27) rfl (L ?_));(first | refine sb (.agg #[_,_]) S sz27 ?_ | refine ro (.agg #[_,_]) S sz27 ?_ (ho:=rfl) (hx:=rfl) (hy:=rfl));clear S F;intro W S;(try simp only [gd27] at S);(try rw [← Ny261.out] at S);have F:=S.fc))
             refine bodyPost_ret (results_cell_row rfl _ _ gb223 25 #[.int .i64 2,.int .i64 10,.slice Ay261 y261.length cy261] (0,0) _ rfl S.hb Try.underlying25 rfl (by kernel_rfl)) rfl ?_
             exact ⟨_,(by first | rfl | (simp;done) | first | rfl | (simp [e0_,e1_] <;> rfl) | (simp [*,e0_,e1_] <;> rfl)),(by first | exact S.qu | exact Kd.Q_of_R S.ru | exact Kd.Q_nil _ _ _ _ _),(by first | exact S.hb | simpa using S.hb (g:=g)),S.below,S.kept⟩
           · skip
             replace c92:=cne c92
             simp only [Option.some.injEq,Prod.mk.injEq] at H
             obtain ⟨rfl,rfl,rfl,rfl,rfl⟩:=H
             go_enter Try.func26,Try.ntmps26
             go_wp2_with (first | ((with_reducible refine gd 2 rfl (L ?_));refine al 2 S zi25 ?_;clear S F;intro gb223 W S;have F:=S.fc) | ((with_reducible refine gate_callee (f:=51) rfl (L ?_));refine cl (some 5) Try.func51 (spec_l1Cur_board.calls _ g _ _ _ _ _ _ _ _ _ _ _ _ S.hb (S.hge g) hS0_0 S.below A2) (hargs:=by first | (simp only [ma_,mb_,mc_,F] <;> rfl) | (simp only [ma_,mb_,mc_,F,List.length_take,List.length_drop];rw [Nat.min_eq_left] <;> first | rfl | omega)) (h:=?_);rintro e W ⟨v227,rfl,ho0,hi,hb,hk⟩;refine ⟨_,rfl,?_⟩;obtain ⟨W_,hs_,hm_,S⟩:=S.mid g hi hb hk;rw [← hs_] at ho0;replace S:=S.got at27 hm_ ho0;obtain ⟨At226,ct226,rfl,S⟩:=S;clear F hi hb hk hs_ hm_ ho0;have F:=S.fc) | ((with_reducible refine gd 3 rfl (L ?_));refine al 3 S zi25 ?_;clear S F;intro gb231 W S;have F:=S.fc) | ((with_reducible refine gate_callee (f:=36) rfl (L ?_));refine cl (some 7) Try.func36 (spec_l1Cur_pick.calls g _ _ _ _ _ _ _ _ _ _ _ S.hb (S.hge g) hS0_0 S.below A3) (hargs:=by first | (simp only [ma_,mb_,mc_,F] <;> rfl) | (simp only [ma_,mb_,mc_,F,List.length_take,List.length_drop];rw [Nat.min_eq_left] <;> first | rfl | omega)) (h:=?_);rintro e W ⟨rfl,hi,hb,hk⟩;refine ⟨_,rfl,?_⟩;obtain ⟨W_,hs_,hm_,S⟩:=S.mid g hi hb hk;replace S:=S.go hm_;clear F hi hb hk hs_ hm_ ;have F:=S.fc) | ((with_reducible refine gs (t:=3) rfl (L ?_));(first | refine sb (.int _ _) S sz3 ?_ | refine ro (.int _ _) S sz3 ?_ (ho:=rfl) (hx:=rfl) (hy:=rfl));clear S F;intro W S;(try simp only [gd27] at S);have F:=S.fc) | ((with_reducible refine gs (t:=23) rfl (L ?_));(first | refine sb (.slice _ _ _) S sz23 ?_ | refine ro (.slice _ _ _) S sz23 ?_ (ho:=rfl) (hx:=rfl) (hy:=rfl));clear S F;intro W S;(try simp only [gd27] at S);have F:=S.fc) | ((with_reducible refine gs (t:=25) rfl (L ?_));(first | refine sb (.agg #[_,_,_]) S sz25 ?_ | refine ro (.agg #[_,_,_]) S sz25 ?_ (ho:=rfl) (hx:=rfl) (hy:=rfl));clear S F;intro W S;(try simp only [gd27] at S);have F:=S.fc) | ((with_reducible refine gs (t:=27) rfl (L ?_));(first | refine sb (.agg #[_,_]) S sz27 ?_ | refine ro (.agg #[_,_]) S sz27 ?_ (ho:=rfl) (hx:=rfl) (hy:=rfl));clear S F;intro W S;(try simp only [gd27] at S);have F:=S.fc))
             refine bodyPost_ret (results_cell_row rfl _ _ gb223 25 #[.int .i64 t224,.int .i64 t225,.slice At226 t226.length ct226] (0,0) _ rfl S.hb Try.underlying25 rfl (by kernel_rfl)) rfl ?_
             exact ⟨_,(by first | rfl | (simp;done) | first | rfl | (simp [e0_,e1_] <;> rfl) | (simp [*,e0_,e1_] <;> rfl)),(by first | exact S.qu | exact Kd.Q_of_R S.ru | exact Kd.Q_nil _ _ _ _ _),(by first | exact S.hb | simpa using S.hb (g:=g)),S.below,S.kept⟩

/-! ### spec_l1Most: function 38 -/
def spec_l1Most.f (a0:Int) (a1:Int):Option (Int):=if a0 > a1 then (some a0) else (some a1)
theorem spec_l1Most.calls (a0:Int) (a1:Int) (r:Int) (w:World) (h:spec_l1Most.f a0 a1 = some r) :
  Calls Try.prog 38 #[.int .i64 a0,.int .i64 a1] w fun e w'=>e = .returned (.int .i64 r)∧Drawn0 w w':=by
 have H:(if a0 > a1 then (some a0) else (some a1)) = some r:=h;clear h;by_cases c3:a0 > a1
 ·rw [if_pos c3] at H;have c3b0:decide (a1 < a0) = true:=decide_eq_true c3;clear c3;obtain rfl:=Option.some.inj H;go_enter Try.func38,Try.ntmps38;go_wp2;go_ret;exact ⟨by first | rfl | (simp;done) | (simp [*];done),by repeat (first | exact Drawn0.refl _ | apply Drawn0.step)⟩
 ·rw [if_neg c3] at H;have c3b0:decide (a1 < a0) = false:=decide_eq_false c3;clear c3;obtain rfl:=Option.some.inj H;go_enter Try.func38,Try.ntmps38;go_wp2;go_ret;exact ⟨by first | rfl | (simp;done) | (simp [*];done),by repeat (first | exact Drawn0.refl _ | apply Drawn0.step)⟩

/-! ### spec_l1Cur_rowOf: function 27 -/
def spec_l1Cur_rowOf.f (s0_0:List Int) (s0_1:Int) (s0_2:Int) (a1_0:Int) (a1_1:Int) (l1_2:List (S27)):Option (Int × Int × Int):=(spec_l1Most.f 1 a1_0).bind fun t265=>((spec_l1Cur_pick.f s0_0 s0_1 s0_2 16).bind fun bt266=>((spec_l1Cur_pick.f s0_0 bt266.2.1 bt266.2.2 (wrap64 (t265 + (wrap64 (Int.tdiv bt266.1 15))))).bind fun bt269=>((spec_l1Cur_pick.f s0_0 bt269.2.1 bt269.2.2 24).bind fun bt272=>(some (wrap64 (bt269.1 - (wrap64 (Int.tdiv bt272.1 23))),bt272.2.1,bt272.2.2)))))
theorem spec_l1Cur_rowOf.calls (g:Nat) (s0_0:List Int) (s0_1:Int) (s0_2:Int) (a1_0:Int) (a1_1:Int) (A1_2:Option Addr) (c1_2:Nat) (l1_2:List (S27)) (r1:Int) (r2:Int) (r3:Int) (As0_0:Option Addr) (cs0_0:Nat) (w0 w:World) (hI:w.heap[g]? = some (.cells #[.slice As0_0 s0_0.length cs0_0,.int .i64 s0_1,.int .u64 s0_2] 51 (0,0))) (hG:w0.heap.size ≤ g) (hS0_0:Kd.C (Kd.int .u8) w0 As0_0 s0_0.length s0_0) (hB:Below w0.heap.size w0 w) (hr1_2:∀ W_,Kept w W_ (fun k_=>k_ = g)→Kd.C k27 W_ A1_2 l1_2.length l1_2) (hc1_2:l1_2.length ≤ c1_2) (h:spec_l1Cur_rowOf.f s0_0 s0_1 s0_2 a1_0 a1_1 l1_2 = some (r1,r2,r3)) :
    Calls Try.prog 27 #[.pointer (some ⟨g,0,none⟩),.agg #[.int .i64 a1_0,.int .i64 a1_1,.slice A1_2 l1_2.length c1_2]] w fun e w'=>e = .returned (.int .i64 r1)∧w'.heap[g]? = some (.cells #[.slice As0_0 s0_0.length cs0_0,.int .i64 r2,.int .u64 r3] 51 (0,0))∧Below w0.heap.size w0 w'∧Kept w w' (fun k_=>k_ = g):=by
 have S:=St.boxed hB hG hI (dg (Kd.heap_int .u8) (atI .u8) hS0_0 hB hG (dk at27 hr1_2 hc1_2 dn))
 clear hI hB hr1_2 hc1_2
 have F:=S.fc
 have H:=h;clear h;unfold spec_l1Cur_rowOf.f at H
 replace H:=Option.bind_eq_some_iff.mp H;obtain ⟨t265,A3,H⟩:=H;(try dsimp only at H)
 replace H:=Option.bind_eq_some_iff.mp H;obtain ⟨⟨t266,t267,t268⟩,A4,H⟩:=H;(try dsimp only at H)
 replace H:=Option.bind_eq_some_iff.mp H;obtain ⟨⟨t269,t270,t271⟩,A5,H⟩:=H;(try dsimp only at H)
 replace H:=Option.bind_eq_some_iff.mp H;obtain ⟨⟨t272,t273,t274⟩,A6,H⟩:=H;(try dsimp only at H)
 simp only [Option.some.injEq,Prod.mk.injEq] at H
 obtain ⟨rfl,rfl,rfl⟩:=H
 go_enter Try.func27,Try.ntmps27
 go_wp2_with (first | ((with_reducible refine gd 3 rfl (L ?_));refine bo 3 (.agg #[_,_,_]) S ?_;clear S F;intro gb264 W S;have F:=S.fc) | ((with_reducible refine gate_callee (f:=38) rfl (L ?_));refine cl (some 8) Try.func38 (spec_l1Most.calls _ _ _ _ A3) (hargs:=by (simp only [ma_,mb_,mc_,F] <;> rfl)) (h:=?_);rintro e W ⟨rfl,hb⟩;refine ⟨_,rfl,?_⟩;replace S:=S.gw hb;clear F hb;have F:=S.fc) | ((with_reducible refine gate_callee (f:=36) rfl (L ?_));refine cl (some 10) Try.func36 (spec_l1Cur_pick.calls g _ _ _ _ _ _ _ _ _ _ _ S.hb (S.hge g) hS0_0 S.below A4) (hargs:=by (simp only [ma_,mb_,mc_,F] <;> rfl)) (h:=?_);rintro e W ⟨rfl,hi,hb,hk⟩;refine ⟨_,rfl,?_⟩;obtain ⟨W_,hs_,hm_,S⟩:=S.mid g hi hb hk;replace S:=S.go hm_;clear F hi hb hk hs_ hm_ ;have F:=S.fc) | ((with_reducible refine gate_callee (f:=36) rfl (L ?_));refine cl (some 13) Try.func36 (spec_l1Cur_pick.calls g _ _ _ _ _ _ _ _ _ _ _ S.hb (S.hge g) hS0_0 S.below A5) (hargs:=by (simp only [ma_,mb_,mc_,F] <;> rfl)) (h:=?_);rintro e W ⟨rfl,hi,hb,hk⟩;refine ⟨_,rfl,?_⟩;obtain ⟨W_,hs_,hm_,S⟩:=S.mid g hi hb hk;replace S:=S.go hm_;clear F hi hb hk hs_ hm_ ;have F:=S.fc) | ((with_reducible refine gate_callee (f:=36) rfl (L ?_));refine cl (some 15) Try.func36 (spec_l1Cur_pick.calls g _ _ _ _ _ _ _ _ _ _ _ S.hb (S.hge g) hS0_0 S.below A6) (hargs:=by (simp only [ma_,mb_,mc_,F] <;> rfl)) (h:=?_);rintro e W ⟨rfl,hi,hb,hk⟩;refine ⟨_,rfl,?_⟩;obtain ⟨W_,hs_,hm_,S⟩:=S.mid g hi hb hk;replace S:=S.go hm_;clear F hi hb hk hs_ hm_ ;have F:=S.fc))
 go_ret
 exact ⟨(by first | rfl | (simp;done) | first | rfl | (simp [e0_,e1_] <;> rfl) | (simp [*,e0_,e1_] <;> rfl)),(by first | exact S.hb | simpa using S.hb (g:=g)),S.below,S.kept⟩

/-! ### spec_l1Cur_columnOf: function 28 -/
def spec_l1Cur_columnOf.f (s0_0:List Int) (s0_1:Int) (s0_2:Int) (a1_0:Int) (a1_1:Int) (l1_2:List (S27)):Option (Int × Int × Int):=(spec_l1Most.f 1 a1_1).bind fun t276=>((spec_l1Cur_pick.f s0_0 s0_1 s0_2 16).bind fun bt277=>((spec_l1Cur_pick.f s0_0 bt277.2.1 bt277.2.2 (wrap64 (t276 + (wrap64 (Int.tdiv bt277.1 15))))).bind fun bt280=>((spec_l1Cur_pick.f s0_0 bt280.2.1 bt280.2.2 24).bind fun bt283=>(some (wrap64 (bt280.1 - (wrap64 (Int.tdiv bt283.1 23))),bt283.2.1,bt283.2.2)))))
theorem spec_l1Cur_columnOf.calls (g:Nat) (s0_0:List Int) (s0_1:Int) (s0_2:Int) (a1_0:Int) (a1_1:Int) (A1_2:Option Addr) (c1_2:Nat) (l1_2:List (S27)) (r1:Int) (r2:Int) (r3:Int) (As0_0:Option Addr) (cs0_0:Nat) (w0 w:World) (hI:w.heap[g]? = some (.cells #[.slice As0_0 s0_0.length cs0_0,.int .i64 s0_1,.int .u64 s0_2] 51 (0,0))) (hG:w0.heap.size ≤ g) (hS0_0:Kd.C (Kd.int .u8) w0 As0_0 s0_0.length s0_0) (hB:Below w0.heap.size w0 w) (hr1_2:∀ W_,Kept w W_ (fun k_=>k_ = g)→Kd.C k27 W_ A1_2 l1_2.length l1_2) (hc1_2:l1_2.length ≤ c1_2) (h:spec_l1Cur_columnOf.f s0_0 s0_1 s0_2 a1_0 a1_1 l1_2 = some (r1,r2,r3)) :
    Calls Try.prog 28 #[.pointer (some ⟨g,0,none⟩),.agg #[.int .i64 a1_0,.int .i64 a1_1,.slice A1_2 l1_2.length c1_2]] w fun e w'=>e = .returned (.int .i64 r1)∧w'.heap[g]? = some (.cells #[.slice As0_0 s0_0.length cs0_0,.int .i64 r2,.int .u64 r3] 51 (0,0))∧Below w0.heap.size w0 w'∧Kept w w' (fun k_=>k_ = g):=by
 have S:=St.boxed hB hG hI (dg (Kd.heap_int .u8) (atI .u8) hS0_0 hB hG (dk at27 hr1_2 hc1_2 dn))
 clear hI hB hr1_2 hc1_2
 have F:=S.fc
 have H:=h;clear h;unfold spec_l1Cur_columnOf.f at H
 replace H:=Option.bind_eq_some_iff.mp H;obtain ⟨t276,A3,H⟩:=H;(try dsimp only at H)
 replace H:=Option.bind_eq_some_iff.mp H;obtain ⟨⟨t277,t278,t279⟩,A4,H⟩:=H;(try dsimp only at H)
 replace H:=Option.bind_eq_some_iff.mp H;obtain ⟨⟨t280,t281,t282⟩,A5,H⟩:=H;(try dsimp only at H)
 replace H:=Option.bind_eq_some_iff.mp H;obtain ⟨⟨t283,t284,t285⟩,A6,H⟩:=H;(try dsimp only at H)
 simp only [Option.some.injEq,Prod.mk.injEq] at H
 obtain ⟨rfl,rfl,rfl⟩:=H
 go_enter Try.func28,Try.ntmps28
 go_wp2_with (first | ((with_reducible refine gd 3 rfl (L ?_));refine bo 3 (.agg #[_,_,_]) S ?_;clear S F;intro gb275 W S;have F:=S.fc) | ((with_reducible refine gate_callee (f:=38) rfl (L ?_));refine cl (some 8) Try.func38 (spec_l1Most.calls _ _ _ _ A3) (hargs:=by (simp only [ma_,mb_,mc_,F] <;> rfl)) (h:=?_);rintro e W ⟨rfl,hb⟩;refine ⟨_,rfl,?_⟩;replace S:=S.gw hb;clear F hb;have F:=S.fc) | ((with_reducible refine gate_callee (f:=36) rfl (L ?_));refine cl (some 10) Try.func36 (spec_l1Cur_pick.calls g _ _ _ _ _ _ _ _ _ _ _ S.hb (S.hge g) hS0_0 S.below A4) (hargs:=by (simp only [ma_,mb_,mc_,F] <;> rfl)) (h:=?_);rintro e W ⟨rfl,hi,hb,hk⟩;refine ⟨_,rfl,?_⟩;obtain ⟨W_,hs_,hm_,S⟩:=S.mid g hi hb hk;replace S:=S.go hm_;clear F hi hb hk hs_ hm_ ;have F:=S.fc) | ((with_reducible refine gate_callee (f:=36) rfl (L ?_));refine cl (some 13) Try.func36 (spec_l1Cur_pick.calls g _ _ _ _ _ _ _ _ _ _ _ S.hb (S.hge g) hS0_0 S.below A5) (hargs:=by (simp only [ma_,mb_,mc_,F] <;> rfl)) (h:=?_);rintro e W ⟨rfl,hi,hb,hk⟩;refine ⟨_,rfl,?_⟩;obtain ⟨W_,hs_,hm_,S⟩:=S.mid g hi hb hk;replace S:=S.go hm_;clear F hi hb hk hs_ hm_ ;have F:=S.fc) | ((with_reducible refine gate_callee (f:=36) rfl (L ?_));refine cl (some 15) Try.func36 (spec_l1Cur_pick.calls g _ _ _ _ _ _ _ _ _ _ _ S.hb (S.hge g) hS0_0 S.below A6) (hargs:=by (simp only [ma_,mb_,mc_,F] <;> rfl)) (h:=?_);rintro e W ⟨rfl,hi,hb,hk⟩;refine ⟨_,rfl,?_⟩;obtain ⟨W_,hs_,hm_,S⟩:=S.mid g hi hb hk;replace S:=S.go hm_;clear F hi hb hk hs_ hm_ ;have F:=S.fc))
 go_ret
 exact ⟨(by first | rfl | (simp;done) | first | rfl | (simp [e0_,e1_] <;> rfl) | (simp [*,e0_,e1_] <;> rfl)),(by first | exact S.hb | simpa using S.hb (g:=g)),S.below,S.kept⟩

/-! ### spec_DrawPutCell: function 4 -/
def spec_DrawPutCell.f (k:Nat) (l0:List Int):Option (Int × Int × (List (S27)) × Int × Int × Int × Int):=(spec_l1Cur_anyBoard.f k l0 0 0).bind fun bt289=>((spec_l1Cur_rowOf.f l0 bt289.2.2.2.1 bt289.2.2.2.2 bt289.1 bt289.2.1 bt289.2.2.1).bind fun bt297=>((spec_l1Cur_columnOf.f l0 bt297.2.1 bt297.2.2 bt289.1 bt289.2.1 bt289.2.2.1).bind fun bt300=>((spec_l1Cur_anyCell.f k l0 bt300.2.1 bt300.2.2).bind fun bt303=>(some (bt289.1,bt289.2.1,bt289.2.2.1,bt297.1,bt300.1,bt303.1,bt303.2.1)))))
theorem spec_DrawPutCell.calls (k:Nat) (A0:Option Addr) (c0:Nat) (l0:List Int) (r1:Int) (r2:Int) (r3:List (S27)) (r4:Int) (r5:Int) (r6:Int) (r7:Int) (w:World) (hr0:Kd.C (Kd.int .u8) w A0 l0.length l0) (hc0:l0.length ≤ c0) (h:spec_DrawPutCell.f k l0 = some (r1,r2,r3,r4,r5,r6,r7)) :
    Calls Try.prog 4 #[.slice A0 l0.length c0] w fun e w'=>∃ v2_:Value,e = .returned (.tuple #[.agg #[.int .i64 r1,.int .i64 r2,v2_],.int .i64 r4,.int .i64 r5,.agg #[.int .i64 r6,.int .i64 r7]])∧Kd.Q k27 27 w' w.heap.size (fun _=>True) v2_ r3∧Below w.heap.size w w':=by
 have S:=St.init (w:=w) (dc (Kd.heap_int .u8) (atI .u8) hr0 hc0 dn)
 clear hc0
 have F:=S.fc
 have H:=h;clear h;unfold spec_DrawPutCell.f at H
 replace H:=Option.bind_eq_some_iff.mp H;obtain ⟨⟨t289,t290,t291,t294,t295⟩,A2,H⟩:=H;(try dsimp only at H)
 replace H:=Option.bind_eq_some_iff.mp H;obtain ⟨⟨t297,t298,t299⟩,A3,H⟩:=H;(try dsimp only at H)
 replace H:=Option.bind_eq_some_iff.mp H;obtain ⟨⟨t300,t301,t302⟩,A4,H⟩:=H;(try dsimp only at H)
 replace H:=Option.bind_eq_some_iff.mp H;obtain ⟨⟨t303,t304,t305,t306⟩,A5,H⟩:=H;(try dsimp only at H)
 simp only [Option.some.injEq,Prod.mk.injEq] at H
 obtain ⟨rfl,rfl,rfl,rfl,rfl,rfl,rfl⟩:=H
 go_enter Try.func4,Try.ntmps4
 go_wp2_with (first | ((with_reducible refine gd 2 rfl (L ?_));refine al 2 S zi25 ?_;clear S F;intro gb286 W S;have F:=S.fc) | ((with_reducible refine gd 5 rfl (L ?_));refine al 5 S zi27 ?_;clear S F;intro gb287 W S;have F:=S.fc) | ((with_reducible refine gd 10 rfl (L ?_));refine bo 10 (.agg #[_,_,_]) S ?_;clear S F;intro gb288 W S;have F:=S.fc) | ((with_reducible refine gate_callee (f:=26) rfl (L ?_));refine cl (some 12) Try.func26 (spec_l1Cur_anyBoard.calls _ gb288 _ _ _ _ _ _ _ _ _ _ _ _ S.hb (S.hge gb288) hr0 S.below A2) (hargs:=by (simp only [ma_,mb_,mc_,F] <;> rfl)) (h:=?_);rintro e W ⟨v292,rfl,ho0,hi,hb,hk⟩;refine ⟨_,rfl,?_⟩;obtain ⟨W_,hs_,hm_,S⟩:=S.mid gb288 hi hb hk;rw [← hs_] at ho0;replace S:=S.gotq at27 hm_ ho0;obtain ⟨At291,ct291,rfl,S⟩:=S;clear F hi hb hk hs_ hm_ ho0;have F:=S.fc) | ((with_reducible refine gd 7 rfl (L ?_));refine al 7 S zi25 ?_;clear S F;intro gb296 W S;have F:=S.fc) | ((with_reducible refine gs (t:=25) rfl (L ?_));(first | refine sb (.agg #[_,_,_]) S sz25 ?_ | refine ro (.agg #[_,_,_]) S sz25 ?_ (ho:=rfl) (hx:=rfl) (hy:=rfl));(clear S F;intro W S;have F:=S.fc)) | ((with_reducible refine gs (t:=27) rfl (L ?_));(first | refine sb (.agg #[_,_]) S sz27 ?_ | refine ro (.agg #[_,_]) S sz27 ?_ (ho:=rfl) (hx:=rfl) (hy:=rfl));(clear S F;intro W S;have F:=S.fc)))
 refine rgP S (fun _ S=>(S.pm [0,1])) [(0,1),(0,4),(0,7),(1,0),(1,2),(1,5),(2,3),(2,6),(2,8),(2,9),(0,10),(0,11),(2,12)] [] (by kernel_rfl) (by kernel_rfl) (fun _ d _ _ _ h=>by cases d <;> exact h) ?_;clear S F;intro W S;have S0:=(S.pm [0,1]);have F:=S.fc
 repeat (first | (refine q0 (h:=?_)) | (refine q1 S0 (h:=?_)) | (refine q0n (h:=?_)) | (refine q1n S0 (h:=?_)))
 refine lk2 (by rfl) (by exact (Eq.refl true)) ?_;refine cl (some 16) Try.func27 (spec_l1Cur_rowOf.calls gb288 _ _ _ _ _ _ _ _ _ _ _ _ _ _ _ S.hb (S.hge gb288) hr0 S.below S.cg S.n A3) (hargs:=by (simp only [ma_,mb_,mc_,F] <;> rfl)) (h:=?_);rintro e W ⟨rfl,hi,hb,hk⟩;refine ⟨_,rfl,?_⟩;obtain ⟨W_,hs_,hm_,S⟩:=S.mid gb288 hi hb hk;replace S:=S.go hm_;clear F hi hb hk hs_ hm_ ;have F:=S.fc
 clear S0;have S0:=(S.pm [0,1]);refine ⟨S0,?_⟩
 refine lk2 (by rfl) (by exact (Eq.refl true)) ?_;refine cl (some 19) Try.func28 (spec_l1Cur_columnOf.calls gb288 _ _ _ _ _ _ _ _ _ _ _ _ _ _ _ S.hb (S.hge gb288) hr0 S.below S.cg S.n A4) (hargs:=by (simp only [ma_,mb_,mc_,F] <;> rfl)) (h:=?_);rintro e W ⟨rfl,hi,hb,hk⟩;refine ⟨_,rfl,?_⟩;obtain ⟨W_,hs_,hm_,S⟩:=S.mid gb288 hi hb hk;replace S:=S.go hm_;clear F hi hb hk hs_ hm_ ;have F:=S.fc
 clear S0;have S0:=(S.pm [0,1]);refine ⟨S0,?_⟩
 refine lk2 (by rfl) (by exact (Eq.refl true)) ?_;refine cl (some 21) Try.func29 (spec_l1Cur_anyCell.calls _ gb288 _ _ _ _ _ _ _ _ _ _ _ S.hb (S.hge gb288) hr0 S.below A5) (hargs:=by (simp only [ma_,mb_,mc_,F] <;> rfl)) (h:=?_);rintro e W ⟨rfl,hi,hb,hk⟩;refine ⟨_,rfl,?_⟩;obtain ⟨W_,hs_,hm_,S⟩:=S.mid gb288 hi hb hk;replace S:=S.go hm_;clear F hi hb hk hs_ hm_ ;have F:=S.fc
 clear S0;have S0:=(S.pm [0,1]);refine ⟨S0,?_⟩
 refine lk2 (by rfl) (by exact (Eq.refl true)) ?_;(first | refine sb (.agg #[_,_,_]) S sz25 ?_ | refine ro (.agg #[_,_,_]) S sz25 ?_ (ho:=rfl) (hx:=rfl) (hy:=rfl) | refine sb (.agg #[_,_]) S sz27 ?_ | refine ro (.agg #[_,_]) S sz27 ?_ (ho:=rfl) (hx:=rfl) (hy:=rfl));(clear S F;intro W S;have F:=S.fc)
 clear S0;have S0:=(S.pm [0,1]);refine ⟨S0,?_⟩
 repeat (first | (refine q0 (h:=?_)) | (refine q1 S0 (h:=?_)) | (refine q0n (h:=?_)) | (refine q1n S0 (h:=?_)))
 refine lk2 (by rfl) (by exact (Eq.refl true)) ?_;(first | refine sb (.agg #[_,_,_]) S sz25 ?_ | refine ro (.agg #[_,_,_]) S sz25 ?_ (ho:=rfl) (hx:=rfl) (hy:=rfl) | refine sb (.agg #[_,_]) S sz27 ?_ | refine ro (.agg #[_,_]) S sz27 ?_ (ho:=rfl) (hx:=rfl) (hy:=rfl));(clear S F;intro W S;have F:=S.fc)
 clear S0;have S0:=(S.pm [0,1]);refine ⟨S0,?_⟩
 refine oz ?_
 try clear S0
 go_wp2_with (first | ((with_reducible refine gs (t:=25) rfl (L ?_));(first | refine sb (.agg #[_,_,_]) S sz25 ?_ | refine ro (.agg #[_,_,_]) S sz25 ?_ (ho:=rfl) (hx:=rfl) (hy:=rfl));(clear S F;intro W S;have F:=S.fc)) | ((with_reducible refine gs (t:=27) rfl (L ?_));(first | refine sb (.agg #[_,_]) S sz27 ?_ | refine ro (.agg #[_,_]) S sz27 ?_ (ho:=rfl) (hx:=rfl) (hy:=rfl));(clear S F;intro W S;have F:=S.fc)))
 refine bodyPost_ret (results_list (rs:=[.cell 2 25,.tmp 3,.tmp 4,.cell 5 27]) rfl (by simp) (.cell gb286 25 #[.int .i64 t289,.int .i64 t290,.slice At291 t291.length ct291] (0,0) _ rfl S.hb Try.underlying25 rfl (by kernel_rfl) (.tmp (.tmp (.cell gb287 27 #[.int .i64 t303,.int .i64 t304] (0,0) _ rfl S.hb Try.underlying27 rfl (by kernel_rfl) .nil))))) rfl ?_
 exact ⟨_,(by first | rfl | (simp [e0_,e1_] <;> rfl) | (simp [*,e0_,e1_] <;> rfl)),(by first | exact S.q | exact Kd.Q_of_R S.r | exact Kd.Q_nil _ _ _ _ _),S.below⟩

/-! ### impl_IsCell: function 31 -/
def impl_IsCell.f (a0_0:Int) (a0_1:Int):Option (Bool):=if a0_0 < 0 then (some false) else (if a0_0 > 7 then (some false) else (if a0_1 < 0 then (some false) else (if a0_1 > 1 then (some false) else (if a0_1 = 0 then (some true) else (if a0_0 = 3 then (some true) else (some (a0_0 == 6)))))))
theorem impl_IsCell.calls (a0_0:Int) (a0_1:Int) (r:Bool) (w:World) (h:impl_IsCell.f a0_0 a0_1 = some r) :
    Calls Try.prog 31 #[.agg #[.int .i64 a0_0,.int .i64 a0_1]] w fun e w'=>e = .returned (.bool r)∧Below w.heap.size w w':=by
 have S:=St.init (w:=w) dn
 have F:=S.fc
 have H:=h;clear h;unfold impl_IsCell.f at H
 replace H:=sp_ H;rcases H with ⟨c2,H⟩ | ⟨c2,H⟩
 · skip
   obtain rfl:=Option.some.inj H
   go_enter Try.func31,Try.ntmps31
   go_wp2_with (first | ((with_reducible refine gd 1 rfl (L ?_));refine bo 1 (.agg #[_,_]) S ?_;clear S F;intro gb307 W S;have F:=S.fc))
   go_ret
   exact ⟨(by first | rfl | (simp [e0_,e1_] <;> rfl) | (simp [*,e0_,e1_] <;> rfl)),S.below⟩
 · skip
   replace H:=sp_ H;rcases H with ⟨c5,H⟩ | ⟨c5,H⟩
   · skip
     obtain rfl:=Option.some.inj H
     go_enter Try.func31,Try.ntmps31
     go_wp2_with (first | ((with_reducible refine gd 1 rfl (L ?_));refine bo 1 (.agg #[_,_]) S ?_;clear S F;intro gb307 W S;have F:=S.fc))
     go_ret
     exact ⟨(by first | rfl | (simp [e0_,e1_] <;> rfl) | (simp [*,e0_,e1_] <;> rfl)),S.below⟩
   · skip
     replace H:=sp_ H;rcases H with ⟨c8,H⟩ | ⟨c8,H⟩
     · skip
       obtain rfl:=Option.some.inj H
       go_enter Try.func31,Try.ntmps31
       go_wp2_with (first | ((with_reducible refine gd 1 rfl (L ?_));refine bo 1 (.agg #[_,_]) S ?_;clear S F;intro gb307 W S;have F:=S.fc))
       go_ret
       exact ⟨(by first | rfl | (simp [e0_,e1_] <;> rfl) | (simp [*,e0_,e1_] <;> rfl)),S.below⟩
     · skip
       replace H:=sp_ H;rcases H with ⟨c11,H⟩ | ⟨c11,H⟩
       · skip
         obtain rfl:=Option.some.inj H
         go_enter Try.func31,Try.ntmps31
         go_wp2_with (first | ((with_reducible refine gd 1 rfl (L ?_));refine bo 1 (.agg #[_,_]) S ?_;clear S F;intro gb307 W S;have F:=S.fc))
         go_ret
         exact ⟨(by first | rfl | (simp [e0_,e1_] <;> rfl) | (simp [*,e0_,e1_] <;> rfl)),S.below⟩
       · skip
         replace H:=sp_ H;rcases H with ⟨c14,H⟩ | ⟨c14,H⟩
         · skip
           replace c14:=ceq c14
           obtain rfl:=Option.some.inj H
           go_enter Try.func31,Try.ntmps31
           go_wp2_with (first | ((with_reducible refine gd 1 rfl (L ?_));refine bo 1 (.agg #[_,_]) S ?_;clear S F;intro gb307 W S;have F:=S.fc))
           go_ret
           exact ⟨(by first | rfl | (simp [e0_,e1_] <;> rfl) | (simp [*,e0_,e1_] <;> rfl)),S.below⟩
         · skip
           replace c14:=cne c14
           replace H:=sp_ H;rcases H with ⟨c17,H⟩ | ⟨c17,H⟩
           · skip
             replace c17:=ceq c17
             obtain rfl:=Option.some.inj H
             go_enter Try.func31,Try.ntmps31
             go_wp2_with (first | ((with_reducible refine gd 1 rfl (L ?_));refine bo 1 (.agg #[_,_]) S ?_;clear S F;intro gb307 W S;have F:=S.fc))
             go_ret
             exact ⟨(by first | rfl | (simp [e0_,e1_] <;> rfl) | (simp [*,e0_,e1_] <;> rfl)),S.below⟩
           · skip
             replace c17:=cne c17
             obtain rfl:=Option.some.inj H
             go_enter Try.func31,Try.ntmps31
             go_wp2_with (first | ((with_reducible refine gd 1 rfl (L ?_));refine bo 1 (.agg #[_,_]) S ?_;clear S F;intro gb307 W S;have F:=S.fc))
             go_ret
             exact ⟨(by first | rfl | (simp [e0_,e1_] <;> rfl) | (simp [*,e0_,e1_] <;> rfl)),S.below⟩

/-! ### impl_validCells: function 50 -/
def impl_validCells.l0:Nat→List (S27)→Int→Int→Option (Bool)
  | 0,_,_,_=>none
  | k + 1,x8,x9,x10=>if x10 < x9 then (if 0 ≤ x10 then (if x10 < (x8.length:Int) then ((impl_IsCell.f ((rd_T27 x8 x10).f0) ((rd_T27 x8 x10).f1)).bind fun t310=>(if t310 = true then (impl_validCells.l0 k x8 x9 (wrap64 (x10 + 1))) else (some false))) else (none)) else (none)) else (some true)
def impl_validCells.f (k:Nat) (l0:List (S27)):Option (Bool):=if (l0.length:Int) > 90 then (some false) else (impl_validCells.l0 k l0 (l0.length:Int) 0)
theorem impl_validCells.calls (k:Nat) (A0:Option Addr) (c0:Nat) (l0:List (S27)) (r:Bool) (w:World) (hr0:Kd.C k27 w A0 l0.length l0) (hc0:l0.length ≤ c0) (h:impl_validCells.f k l0 = some r) :
    Calls Try.prog 50 #[.slice A0 l0.length c0] w fun e w'=>e = .returned (.bool r)∧Below w.heap.size w w':=by
 have S:=St.init (w:=w) (dc k27_heap at27 hr0 hc0 dn)
 clear hr0 hc0
 have F:=S.fc
 have H:=h;clear h;unfold impl_validCells.f at H
 replace H:=sp_ H;rcases H with ⟨c2,H⟩ | ⟨c2,H⟩
 · skip
   obtain rfl:=Option.some.inj H
   go_enter Try.func50,Try.ntmps50
   go_wp2_with (first | ((with_reducible refine gs (t:=27) rfl (L ?_));(first | refine sb (.agg #[_,_]) S sz27 ?_ | refine ro (.agg #[_,_]) S sz27 ?_ (ho:=rfl) (hx:=rfl) (hy:=rfl));(clear S F;intro W S;have F:=S.fc)))
   go_ret
   exact ⟨(by first | rfl | (simp [e0_,e1_] <;> rfl) | (simp [*,e0_,e1_] <;> rfl)),S.below⟩
 · skip
   go_enter Try.func50,Try.ntmps50
   go_wp2_with (first | ((with_reducible refine gs (t:=27) rfl (L ?_));(first | refine sb (.agg #[_,_]) S sz27 ?_ | refine ro (.agg #[_,_]) S sz27 ?_ (ho:=rfl) (hx:=rfl) (hy:=rfl));(clear S F;intro W S;have F:=S.fc)))
   go_loopg [10] k (fun kq v10 w'=>∃ (x10_1:Int),v10 = .int .i64 x10_1∧impl_validCells.l0 kq l0 (l0.length:Int) x10_1 = some r∧kq ≤ k∧St w w (fun _=>False) [bor at27 A0 c0 l0] w'  [])
   case atStart=>exact ⟨0,(by first | rfl | (simp;done) | (simp [*];done) | (rw [w6_ (by omega) (by omega)])),H,Nat.le_refl _,S⟩
   case round =>
    clear H S F
    obtain ⟨x10_1,rfl,HA,HK1,S⟩:=hrel
    have F:=S.fc
    cases gk with
    | zero=>exact absurd HA (by simp [impl_validCells.l0])
    | succ k1 =>
     have H:=HA;clear HA;simp only [impl_validCells.l0,F] at H
     replace H:=sp_ H;rcases H with ⟨c3,H⟩ | ⟨c3,H⟩
     · skip
       replace H:=np_ H;obtain ⟨c4,H⟩:=H
       replace H:=np_ H;obtain ⟨c5,H⟩:=H
       replace H:=Option.bind_eq_some_iff.mp H;obtain ⟨t310,A6,H⟩:=H;(try dsimp only at H)
       replace H:=sp_ H;rcases H with ⟨c7,H⟩ | ⟨c7,H⟩
       · skip
         subst c7
         go_wp2_with (first | ((with_reducible refine gd 4 rfl (L ?_));refine al 4 S zi27 ?_;clear S F;intro gb309 W S;have F:=S.fc) | ((with_reducible refine gate_callee (f:=31) rfl (L ?_));refine cl (some 15) Try.func31 (impl_IsCell.calls _ _ _ _ A6) (hargs:=by (simp only [ma_,mb_,mc_,F] <;> rfl)) (h:=?_);rintro e W ⟨rfl,hb⟩;refine ⟨_,rfl,?_⟩;replace S:=S.go hb;clear F hb;have F:=S.fc) | ((with_reducible refine gs (t:=27) rfl (L ?_));(first | refine sb (.agg #[_,_]) S sz27 ?_ | refine ro (.agg #[_,_]) S sz27 ?_ (ho:=rfl) (hx:=rfl) (hy:=rfl));(clear S F;intro W S;have F:=S.fc)))
         go_roundg k1
         case measure=>omega
         case rel=>exact ⟨(wrap64 (x10_1 + 1)),(by first | rfl | (simp;done) | (simp [*];done) | (rw [w6_ (by omega) (by omega)])),H,(by first | omega | exact Nat.le_refl _),S.tl⟩
       · skip
         replace c7:=cbf c7;subst c7
         obtain rfl:=Option.some.inj H
         go_wp2_with (first | ((with_reducible refine gd 4 rfl (L ?_));refine al 4 S zi27 ?_;clear S F;intro gb309 W S;have F:=S.fc) | ((with_reducible refine gate_callee (f:=31) rfl (L ?_));refine cl (some 15) Try.func31 (impl_IsCell.calls _ _ _ _ A6) (hargs:=by (simp only [ma_,mb_,mc_,F] <;> rfl)) (h:=?_);rintro e W ⟨rfl,hb⟩;refine ⟨_,rfl,?_⟩;replace S:=S.go hb;clear F hb;have F:=S.fc) | ((with_reducible refine gs (t:=27) rfl (L ?_));(first | refine sb (.agg #[_,_]) S sz27 ?_ | refine ro (.agg #[_,_]) S sz27 ?_ (ho:=rfl) (hx:=rfl) (hy:=rfl));(clear S F;intro W S;have F:=S.fc)))
         go_ret
         exact ⟨(by first | rfl | (simp [e0_,e1_] <;> rfl) | (simp [*,e0_,e1_] <;> rfl)),S.below⟩
     · skip
       obtain rfl:=Option.some.inj H
       go_wp2_with (first | ((with_reducible refine gs (t:=27) rfl (L ?_));(first | refine sb (.agg #[_,_]) S sz27 ?_ | refine ro (.agg #[_,_]) S sz27 ?_ (ho:=rfl) (hx:=rfl) (hy:=rfl));(clear S F;intro W S;have F:=S.fc)))
       go_ret
       exact ⟨(by first | rfl | (simp [e0_,e1_] <;> rfl) | (simp [*,e0_,e1_] <;> rfl)),S.below⟩

/-! ### impl_IsBoard: function 25 -/
def impl_IsBoard.f (k:Nat) (a0_0:Int) (a0_1:Int) (l0_2:List (S27)):Option (Bool):=if a0_0 ≥ 1 then (if a0_0 ≤ 10 then (if a0_1 ≥ 1 then (if a0_1 ≤ 9 then (if (l0_2.length:Int) = (wrap64 (a0_0 * a0_1)) then ((impl_validCells.f k l0_2).bind fun t312=>(some t312)) else (some false)) else (some false)) else (some false)) else (some false)) else (some false)
theorem impl_IsBoard.calls (k:Nat) (a0_0:Int) (a0_1:Int) (A0_2:Option Addr) (c0_2:Nat) (l0_2:List (S27)) (r:Bool) (w:World) (hr0_2:Kd.C k27 w A0_2 l0_2.length l0_2) (hc0_2:l0_2.length ≤ c0_2) (h:impl_IsBoard.f k a0_0 a0_1 l0_2 = some r) :
    Calls Try.prog 25 #[.agg #[.int .i64 a0_0,.int .i64 a0_1,.slice A0_2 l0_2.length c0_2]] w fun e w'=>e = .returned (.bool r)∧Below w.heap.size w w':=by
 have S:=St.init (w:=w) (dc k27_heap at27 hr0_2 hc0_2 dn)
 clear hr0_2 hc0_2
 have F:=S.fc
 have H:=h;clear h;unfold impl_IsBoard.f at H
 replace H:=sp_ H;rcases H with ⟨c2,H⟩ | ⟨c2,H⟩
 · skip
   replace H:=sp_ H;rcases H with ⟨c3,H⟩ | ⟨c3,H⟩
   · skip
     replace H:=sp_ H;rcases H with ⟨c4,H⟩ | ⟨c4,H⟩
     · skip
       replace H:=sp_ H;rcases H with ⟨c5,H⟩ | ⟨c5,H⟩
       · skip
         replace H:=sp_ H;rcases H with ⟨c6,H⟩ | ⟨c6,H⟩
         · skip
           replace c6:=ceq c6
           replace H:=Option.bind_eq_some_iff.mp H;obtain ⟨t312,A7,H⟩:=H;(try dsimp only at H)
           obtain rfl:=Option.some.inj H
           go_enter Try.func25,Try.ntmps25
           go_wp2_with (first | ((with_reducible refine gd 1 rfl (L ?_));refine bo 1 (.agg #[_,_,_]) S ?_;clear S F;intro gb311 W S;have F:=S.fc) | (go_at_call 50;(try simp only [F]);refine (impl_validCells.calls _ _ _ _ _ _ S.c S.n A7).mono ?_;rintro e W ⟨rfl,hb⟩;replace S:=S.go hb;clear F hb;have F:=S.fc))
           go_ret
           exact ⟨(by first | rfl | (simp [e0_,e1_] <;> rfl) | (simp [*,e0_,e1_] <;> rfl)),S.below⟩
         · skip
           replace c6:=cne c6
           obtain rfl:=Option.some.inj H
           go_enter Try.func25,Try.ntmps25
           go_wp2_with (first | ((with_reducible refine gd 1 rfl (L ?_));refine bo 1 (.agg #[_,_,_]) S ?_;clear S F;intro gb311 W S;have F:=S.fc))
           go_ret
           exact ⟨(by first | rfl | (simp [e0_,e1_] <;> rfl) | (simp [*,e0_,e1_] <;> rfl)),S.below⟩
       · skip
         obtain rfl:=Option.some.inj H
         go_enter Try.func25,Try.ntmps25
         go_wp2_with (first | ((with_reducible refine gd 1 rfl (L ?_));refine bo 1 (.agg #[_,_,_]) S ?_;clear S F;intro gb311 W S;have F:=S.fc))
         go_ret
         exact ⟨(by first | rfl | (simp [e0_,e1_] <;> rfl) | (simp [*,e0_,e1_] <;> rfl)),S.below⟩
     · skip
       obtain rfl:=Option.some.inj H
       go_enter Try.func25,Try.ntmps25
       go_wp2_with (first | ((with_reducible refine gd 1 rfl (L ?_));refine bo 1 (.agg #[_,_,_]) S ?_;clear S F;intro gb311 W S;have F:=S.fc))
       go_ret
       exact ⟨(by first | rfl | (simp [e0_,e1_] <;> rfl) | (simp [*,e0_,e1_] <;> rfl)),S.below⟩
   · skip
     obtain rfl:=Option.some.inj H
     go_enter Try.func25,Try.ntmps25
     go_wp2_with (first | ((with_reducible refine gd 1 rfl (L ?_));refine bo 1 (.agg #[_,_,_]) S ?_;clear S F;intro gb311 W S;have F:=S.fc))
     go_ret
     exact ⟨(by first | rfl | (simp [e0_,e1_] <;> rfl) | (simp [*,e0_,e1_] <;> rfl)),S.below⟩
 · skip
   obtain rfl:=Option.some.inj H
   go_enter Try.func25,Try.ntmps25
   go_wp2_with (first | ((with_reducible refine gd 1 rfl (L ?_));refine bo 1 (.agg #[_,_,_]) S ?_;clear S F;intro gb311 W S;have F:=S.fc))
   go_ret
   exact ⟨(by first | rfl | (simp [e0_,e1_] <;> rfl) | (simp [*,e0_,e1_] <;> rfl)),S.below⟩

/-! ### impl_onBoard: function 30 -/
def impl_onBoard.f (k:Nat) (a0_0:Int) (a0_1:Int) (l0_2:List (S27)) (a1:Int) (a2:Int):Option (Bool):=(impl_IsBoard.f k a0_0 a0_1 l0_2).bind fun t314=>(if t314 = true then (if a1 ≥ 0 then (if a1 < a0_0 then (if a2 ≥ 0 then (some (decide (a2 < a0_1))) else (some false)) else (some false)) else (some false)) else (some false))
theorem impl_onBoard.calls (k:Nat) (a0_0:Int) (a0_1:Int) (A0_2:Option Addr) (c0_2:Nat) (l0_2:List (S27)) (a1:Int) (a2:Int) (r:Bool) (w:World) (hr0_2:Kd.C k27 w A0_2 l0_2.length l0_2) (hc0_2:l0_2.length ≤ c0_2) (h:impl_onBoard.f k a0_0 a0_1 l0_2 a1 a2 = some r) :
    Calls Try.prog 30 #[.agg #[.int .i64 a0_0,.int .i64 a0_1,.slice A0_2 l0_2.length c0_2],.int .i64 a1,.int .i64 a2] w fun e w'=>e = .returned (.bool r)∧Below w.heap.size w w':=by
 have S:=St.init (w:=w) (dc k27_heap at27 hr0_2 hc0_2 dn)
 clear hr0_2 hc0_2
 have F:=S.fc
 have H:=h;clear h;unfold impl_onBoard.f at H
 replace H:=Option.bind_eq_some_iff.mp H;obtain ⟨t314,A4,H⟩:=H;(try dsimp only at H)
 replace H:=sp_ H;rcases H with ⟨c5,H⟩ | ⟨c5,H⟩
 · skip
   subst c5
   replace H:=sp_ H;rcases H with ⟨c6,H⟩ | ⟨c6,H⟩
   · skip
     replace H:=sp_ H;rcases H with ⟨c7,H⟩ | ⟨c7,H⟩
     · skip
       replace H:=sp_ H;rcases H with ⟨c8,H⟩ | ⟨c8,H⟩
       · skip
         obtain rfl:=Option.some.inj H
         go_enter Try.func30,Try.ntmps30
         go_wp2_with (first | ((with_reducible refine gd 3 rfl (L ?_));refine bo 3 (.agg #[_,_,_]) S ?_;clear S F;intro gb313 W S;have F:=S.fc) | ((with_reducible refine gate_callee (f:=25) rfl (L ?_));refine cl (some 8) Try.func25 (impl_IsBoard.calls _ _ _ _ _ _ _ _ S.c S.n A4) (hargs:=by (simp only [ma_,mb_,mc_,F] <;> rfl)) (h:=?_);rintro e W ⟨rfl,hb⟩;refine ⟨_,rfl,?_⟩;replace S:=S.go hb;clear F hb;have F:=S.fc))
         go_ret
         exact ⟨(by first | rfl | (simp [e0_,e1_] <;> rfl) | (simp [*,e0_,e1_] <;> rfl)),S.below⟩
       · skip
         obtain rfl:=Option.some.inj H
         go_enter Try.func30,Try.ntmps30
         go_wp2_with (first | ((with_reducible refine gd 3 rfl (L ?_));refine bo 3 (.agg #[_,_,_]) S ?_;clear S F;intro gb313 W S;have F:=S.fc) | ((with_reducible refine gate_callee (f:=25) rfl (L ?_));refine cl (some 8) Try.func25 (impl_IsBoard.calls _ _ _ _ _ _ _ _ S.c S.n A4) (hargs:=by (simp only [ma_,mb_,mc_,F] <;> rfl)) (h:=?_);rintro e W ⟨rfl,hb⟩;refine ⟨_,rfl,?_⟩;replace S:=S.go hb;clear F hb;have F:=S.fc))
         go_ret
         exact ⟨(by first | rfl | (simp [e0_,e1_] <;> rfl) | (simp [*,e0_,e1_] <;> rfl)),S.below⟩
     · skip
       obtain rfl:=Option.some.inj H
       go_enter Try.func30,Try.ntmps30
       go_wp2_with (first | ((with_reducible refine gd 3 rfl (L ?_));refine bo 3 (.agg #[_,_,_]) S ?_;clear S F;intro gb313 W S;have F:=S.fc) | ((with_reducible refine gate_callee (f:=25) rfl (L ?_));refine cl (some 8) Try.func25 (impl_IsBoard.calls _ _ _ _ _ _ _ _ S.c S.n A4) (hargs:=by (simp only [ma_,mb_,mc_,F] <;> rfl)) (h:=?_);rintro e W ⟨rfl,hb⟩;refine ⟨_,rfl,?_⟩;replace S:=S.go hb;clear F hb;have F:=S.fc))
       go_ret
       exact ⟨(by first | rfl | (simp [e0_,e1_] <;> rfl) | (simp [*,e0_,e1_] <;> rfl)),S.below⟩
   · skip
     obtain rfl:=Option.some.inj H
     go_enter Try.func30,Try.ntmps30
     go_wp2_with (first | ((with_reducible refine gd 3 rfl (L ?_));refine bo 3 (.agg #[_,_,_]) S ?_;clear S F;intro gb313 W S;have F:=S.fc) | ((with_reducible refine gate_callee (f:=25) rfl (L ?_));refine cl (some 8) Try.func25 (impl_IsBoard.calls _ _ _ _ _ _ _ _ S.c S.n A4) (hargs:=by (simp only [ma_,mb_,mc_,F] <;> rfl)) (h:=?_);rintro e W ⟨rfl,hb⟩;refine ⟨_,rfl,?_⟩;replace S:=S.go hb;clear F hb;have F:=S.fc))
     go_ret
     exact ⟨(by first | rfl | (simp [e0_,e1_] <;> rfl) | (simp [*,e0_,e1_] <;> rfl)),S.below⟩
 · skip
   replace c5:=cbf c5;subst c5
   obtain rfl:=Option.some.inj H
   go_enter Try.func30,Try.ntmps30
   go_wp2_with (first | ((with_reducible refine gd 3 rfl (L ?_));refine bo 3 (.agg #[_,_,_]) S ?_;clear S F;intro gb313 W S;have F:=S.fc) | ((with_reducible refine gate_callee (f:=25) rfl (L ?_));refine cl (some 8) Try.func25 (impl_IsBoard.calls _ _ _ _ _ _ _ _ S.c S.n A4) (hargs:=by (simp only [ma_,mb_,mc_,F] <;> rfl)) (h:=?_);rintro e W ⟨rfl,hb⟩;refine ⟨_,rfl,?_⟩;replace S:=S.go hb;clear F hb;have F:=S.fc))
   go_ret
   exact ⟨(by first | rfl | (simp [e0_,e1_] <;> rfl) | (simp [*,e0_,e1_] <;> rfl)),S.below⟩

/-! ### impl_copyBoard: function 32 -/
def impl_copyBoard.f (a0_0:Int) (a0_1:Int) (l0_2:List (S27)):Option (Int × Int × (List (S27))):=(some (([]:List (S27)):List (S27))).bind fun y317=>(if y317.length + l0_2.length < 8796093022208 then (some (a0_0,a0_1,(y317 ++ l0_2))) else (none))
theorem impl_copyBoard.calls (a0_0:Int) (a0_1:Int) (A0_2:Option Addr) (c0_2:Nat) (l0_2:List (S27)) (r1:Int) (r2:Int) (r3:List (S27)) (w:World) (hr0_2:Kd.C k27 w A0_2 l0_2.length l0_2) (hc0_2:l0_2.length ≤ c0_2) (h:impl_copyBoard.f a0_0 a0_1 l0_2 = some (r1,r2,r3)) :
    Calls Try.prog 32 #[.agg #[.int .i64 a0_0,.int .i64 a0_1,.slice A0_2 l0_2.length c0_2]] w fun e w'=>∃ v2_:Value,e = .returned (.agg #[.int .i64 r1,.int .i64 r2,v2_])∧Kd.R k27 27 w' w.heap.size (fun _=>True) v2_ r3∧Below w.heap.size w w':=by
 have S:=St.init (w:=w) (dc k27_heap at27 hr0_2 hc0_2 dn)
 clear hr0_2 hc0_2
 have F:=S.fc
 have H:=h;clear h;unfold impl_copyBoard.f at H
 (first | (with_reducible replace H:=ob_ H;obtain ⟨y317,hy317,H⟩:=H;(try dsimp only at H)) | (obtain ⟨y317,hy317⟩:∃ y_:List (S27),y_ = (([]:List (S27))):=⟨_,rfl⟩;(try rw [← hy317] at H);(try simp only [Option.bind_some] at H)));have Ny317:=Aside0.mk hy317;clear hy317
 replace H:=np_ H;obtain ⟨c2,H⟩:=H
 (first | (with_reducible replace H:=ob_ H;obtain ⟨y320,hy320,H⟩:=H;(try dsimp only at H)) | (obtain ⟨y320,hy320⟩:∃ y_:List (S27),y_ = (y317 ++ l0_2):=⟨_,rfl⟩;(try rw [← hy320] at H);(try simp only [Option.bind_some] at H)));have Ny320:=Aside0.mk hy320;clear hy320
 simp only [Option.some.injEq,Prod.mk.injEq] at H
 obtain ⟨rfl,rfl,rfl⟩:=H
 go_enter Try.func32,Try.ntmps32
 go_wp2_with (first | ((with_reducible refine gd 1 rfl (L ?_));refine bo 1 (.agg #[_,_,_]) S ?_;clear S F;intro gb315 W S;have F:=S.fc) | ((with_reducible refine gd 2 rfl (L ?_));refine al 2 S zi25 ?_;clear S F;intro gb316 W S;have F:=S.fc) | ((with_reducible refine gs (t:=25) rfl (L ?_));(first | refine sb (.agg #[_,_,_]) S sz25 ?_ | refine ro (.agg #[_,_,_]) S sz25 ?_ (ho:=rfl) (hx:=rfl) (hy:=rfl));clear S F;intro W S;(try rw [← Ny320.out] at S);have F:=S.fc))
 refine rgP S (fun _ S=>S.tl) [(0,0),(0,2),(0,5),(1,1),(1,3),(1,6),(2,4),(2,7),(0,8),(2,9)] [] (by kernel_rfl) (by kernel_rfl) (fun _ d _ _ _ h=>by cases d <;> exact h) ?_;clear S F;intro W S;have S0:=S.tl;have F:=S.fc
 repeat (first | (refine q0 (h:=?_)) | (refine q1 S0 (h:=?_)) | (refine q0n (h:=?_)) | (refine q1n S0 (h:=?_)))
 refine lk2 (by rfl) (by exact (Eq.refl true)) ?_;refine lia 7 at27 27 S ([]:List (S27)) (fun _ _=>(Reps.none _ _)) (by first | (go_simp;done) | (go_simp;rfl)) ?_;clear S F;intro Ay317 cy317 W S;(try rw [← Ny317.out] at S ⊢);(try rw [← Ny320.out] at S ⊢);have F:=S.fc
 clear S0;have S0:=S.tl.tl;refine ⟨S0,?_⟩
 refine lk2 (by rfl) (by exact (Eq.refl true)) ?_;refine apr (A:=Ay317) (ys:=l0_2) 10 S Try.underlying23 info27 S.c ?_ (ho:=rfl) (hs:=rfl) (hx:=rfl);clear S F;intro Ay320 cy320 W S;(try rw [← Ny320.out] at S ⊢);have F:=S.fc
 clear S0;have S0:=S.tl.tl;refine ⟨S0,?_⟩
 repeat (first | (refine q0 (h:=?_)) | (refine q1 S0 (h:=?_)) | (refine q0n (h:=?_)) | (refine q1n S0 (h:=?_)))
 refine lk2 (by rfl) (by exact (Eq.refl true)) ?_;(first | refine sb (.agg #[_,_,_]) S sz25 ?_ | refine ro (.agg #[_,_,_]) S sz25 ?_ (ho:=rfl) (hx:=rfl) (hy:=rfl));clear S F;intro W S;(try rw [← Ny320.out] at S);have F:=S.fc
 clear S0;have S0:=S.tl.tl;refine ⟨S0,?_⟩
 refine oz ?_
 try clear S0
 go_wp2_with (first | ((with_reducible refine gs (t:=25) rfl (L ?_));(first | refine sb (.agg #[_,_,_]) S sz25 ?_ | refine ro (.agg #[_,_,_]) S sz25 ?_ (ho:=rfl) (hx:=rfl) (hy:=rfl));clear S F;intro W S;(try rw [← Ny320.out] at S);have F:=S.fc))
 refine bodyPost_ret (results_cell_row rfl _ _ gb316 25 #[.int .i64 a0_0,.int .i64 a0_1,.slice Ay320 y320.length cy320] (0,0) _ rfl S.hb Try.underlying25 rfl (by kernel_rfl)) rfl ?_
 exact ⟨_,(by first | rfl | (simp [e0_,e1_] <;> rfl) | (simp [*,e0_,e1_] <;> rfl)),(by first | exact S.r | exact Kd.R_nil _ _ _ _ _),S.below⟩

/-! ### impl_PutCell: function 5 -/
def impl_PutCell.f (k:Nat) (a0_0:Int) (a0_1:Int) (l0_2:List (S27)) (a1:Int) (a2:Int) (a3_0:Int) (a3_1:Int):Option (Int × Int × (List (S27)) × Bool):=(impl_onBoard.f k a0_0 a0_1 l0_2 a1 a2).bind fun t326=>(if t326 = true then ((impl_IsCell.f a3_0 a3_1).bind fun t327=>(if t327 = true then ((impl_copyBoard.f a0_0 a0_1 l0_2).bind fun bt328=>(if 0 ≤ (wrap64 ((wrap64 (a1 * a0_1)) + a2)) then (if (wrap64 ((wrap64 (a1 * a0_1)) + a2)) < (bt328.2.2.length:Int) then (some (bt328.1,bt328.2.1,(bt328.2.2.set ((wrap64 ((wrap64 (a1 * a0_1)) + a2)):Int).toNat (⟨a3_0,a3_1⟩:S27)),true)) else (none)) else (none))) else (some (0,0,([]:List (S27)),false)))) else (some (0,0,([]:List (S27)),false)))
theorem impl_PutCell.calls (k:Nat) (a0_0:Int) (a0_1:Int) (A0_2:Option Addr) (c0_2:Nat) (l0_2:List (S27)) (a1:Int) (a2:Int) (a3_0:Int) (a3_1:Int) (r1:Int) (r2:Int) (r3:List (S27)) (r4:Bool) (w:World) (hr0_2:Kd.C k27 w A0_2 l0_2.length l0_2) (hc0_2:l0_2.length ≤ c0_2) (h:impl_PutCell.f k a0_0 a0_1 l0_2 a1 a2 a3_0 a3_1 = some (r1,r2,r3,r4)) :
    Calls Try.prog 5 #[.agg #[.int .i64 a0_0,.int .i64 a0_1,.slice A0_2 l0_2.length c0_2],.int .i64 a1,.int .i64 a2,.agg #[.int .i64 a3_0,.int .i64 a3_1]] w fun e w'=>∃ v2_:Value,e = .returned (.tuple #[.agg #[.int .i64 r1,.int .i64 r2,v2_],.bool r4])∧Kd.R k27 27 w' w.heap.size (fun _=>True) v2_ r3∧Below w.heap.size w w':=by
 have S:=St.init (w:=w) (dc k27_heap at27 hr0_2 hc0_2 dn)
 clear hr0_2 hc0_2
 have F:=S.fc
 have H:=h;clear h;unfold impl_PutCell.f at H
 replace H:=Option.bind_eq_some_iff.mp H;obtain ⟨t326,A5,H⟩:=H;(try dsimp only at H)
 replace H:=sp_ H;rcases H with ⟨c6,H⟩ | ⟨c6,H⟩
 · skip
   subst c6
   replace H:=Option.bind_eq_some_iff.mp H;obtain ⟨t327,A7,H⟩:=H;(try dsimp only at H)
   replace H:=sp_ H;rcases H with ⟨c8,H⟩ | ⟨c8,H⟩
   · skip
     subst c8
     replace H:=Option.bind_eq_some_iff.mp H;obtain ⟨⟨t328,t329,t330⟩,A9,H⟩:=H;(try dsimp only at H)
     obtain ⟨ji10,hji10⟩:∃ j_:Int,(wrap64 ((wrap64 (a1 * a0_1)) + a2)) = j_:=⟨_,rfl⟩;simp only [hji10] at H
     (try rw [hji10] at A5)
     (try rw [hji10] at A7)
     (try rw [hji10] at A9)
     have hji10w:(IntKind.i64.wrap ((wrap64 (a1 * a0_1)) + a2)) = ji10:=(i64_w _).trans hji10
     replace H:=np_ H;obtain ⟨c11,H⟩:=H
     replace H:=np_ H;obtain ⟨c12,H⟩:=H
     (first | (with_reducible replace H:=ob_ H;obtain ⟨y334,hy334,H⟩:=H;(try dsimp only at H)) | (obtain ⟨y334,hy334⟩:∃ y_:List (S27),y_ = (t330.set ((ji10):Int).toNat (⟨a3_0,a3_1⟩:S27)):=⟨_,rfl⟩;(try rw [← hy334] at H);(try simp only [Option.bind_some] at H)));have Ny334:=Aside0.mk hy334;clear hy334
     simp only [Option.some.injEq,Prod.mk.injEq] at H
     obtain ⟨rfl,rfl,rfl,rfl⟩:=H
     go_enter Try.func5,Try.ntmps5
     go_wp2_with (first | ((with_reducible refine gd 4 rfl (L ?_));refine bo 4 (.agg #[_,_,_]) S ?_;clear S F;intro gb323 W S;have F:=S.fc) | ((with_reducible refine gd 7 rfl (L ?_));refine bo 7 (.agg #[_,_]) S ?_;clear S F;intro gb324 W S;have F:=S.fc) | ((with_reducible refine gd 8 rfl (L ?_));refine al 8 S zi25 ?_;clear S F;intro gb325 W S;have F:=S.fc) | ((with_reducible refine gate_callee (f:=30) rfl (L ?_));refine cl (some 14) Try.func30 (impl_onBoard.calls _ _ _ _ _ _ _ _ _ _ S.c S.n A5) (hargs:=by (simp only [ma_,mb_,mc_,F] <;> rfl)) (h:=?_);rintro e W ⟨rfl,hb⟩;refine ⟨_,rfl,?_⟩;replace S:=S.go hb;clear F hb;have F:=S.fc) | (go_at_call 31;(try simp only [F]);refine (impl_IsCell.calls _ _ _ _ A7).mono ?_;rintro e W ⟨rfl,hb⟩;replace S:=S.go hb;clear F hb;have F:=S.fc) | ((with_reducible refine gate_callee (f:=32) rfl (L ?_));refine cl (some 23) Try.func32 (impl_copyBoard.calls _ _ _ _ _ _ _ _ _ S.c S.n A9) (hargs:=by (simp only [ma_,mb_,mc_,F] <;> rfl)) (h:=?_);rintro e W ⟨v331,rfl,ho0,hb⟩;refine ⟨_,rfl,?_⟩;replace S:=S.got at27 hb ho0;obtain ⟨At330,ct330,rfl,S⟩:=S;clear F hb ho0;(try rw [← Ny334.out] at S);have F:=S.fc) | ((with_reducible refine gd 10 rfl (L ?_));refine al 10 S zi25 ?_;clear S F;intro gb333 W S;have F:=S.fc) | ((with_reducible refine gs (t:=25) rfl (L ?_));(first | refine sb (.agg #[_,_,_]) S sz25 ?_ | refine ro (.agg #[_,_,_]) S sz25 ?_ (ho:=rfl) (hx:=rfl) (hy:=rfl));clear S F;intro W S;(try simp only [gd27] at S);(try rw [← Ny334.out] at S);have F:=S.fc) | ((with_reducible refine gs (t:=27) rfl (L ?_));(first | refine sb (.agg #[_,_]) S sz27 ?_ | refine ro (.agg #[_,_]) S sz27 ?_ (ho:=rfl) (hx:=rfl) (hy:=rfl));clear S F;intro W S;(try simp only [gd27] at S);(try rw [← Ny334.out] at S);have F:=S.fc))
     refine bodyPost_ret (results_ct rfl _ _ gb325 25 #[.int .i64 t328,.int .i64 t329,.slice At330 t330.length ct330] (0,0) _ rfl S.hb Try.underlying25 rfl (by kernel_rfl)) rfl ?_
     exact ⟨_,(by first | rfl | (simp [e0_,e1_] <;> rfl) | (simp [*,e0_,e1_] <;> rfl)),(by first | exact S.r | exact Kd.R_nil _ _ _ _ _),S.below⟩
   · skip
     replace c8:=cbf c8;subst c8
     simp only [Option.some.injEq,Prod.mk.injEq] at H
     obtain ⟨rfl,rfl,rfl,rfl⟩:=H
     go_enter Try.func5,Try.ntmps5
     go_wp2_with (first | ((with_reducible refine gd 4 rfl (L ?_));refine bo 4 (.agg #[_,_,_]) S ?_;clear S F;intro gb323 W S;have F:=S.fc) | ((with_reducible refine gd 7 rfl (L ?_));refine bo 7 (.agg #[_,_]) S ?_;clear S F;intro gb324 W S;have F:=S.fc) | ((with_reducible refine gd 8 rfl (L ?_));refine al 8 S zi25 ?_;clear S F;intro gb325 W S;have F:=S.fc) | ((with_reducible refine gate_callee (f:=30) rfl (L ?_));refine cl (some 14) Try.func30 (impl_onBoard.calls _ _ _ _ _ _ _ _ _ _ S.c S.n A5) (hargs:=by (simp only [ma_,mb_,mc_,F] <;> rfl)) (h:=?_);rintro e W ⟨rfl,hb⟩;refine ⟨_,rfl,?_⟩;replace S:=S.go hb;clear F hb;have F:=S.fc) | (go_at_call 31;(try simp only [F]);refine (impl_IsCell.calls _ _ _ _ A7).mono ?_;rintro e W ⟨rfl,hb⟩;replace S:=S.go hb;clear F hb;have F:=S.fc) | ((with_reducible refine gs (t:=25) rfl (L ?_));(first | refine sb (.agg #[_,_,_]) S sz25 ?_ | refine ro (.agg #[_,_,_]) S sz25 ?_ (ho:=rfl) (hx:=rfl) (hy:=rfl));clear S F;intro W S;(try simp only [gd27] at S);have F:=S.fc) | ((with_reducible refine gs (t:=27) rfl (L ?_));(first | refine sb (.agg #[_,_]) S sz27 ?_ | refine ro (.agg #[_,_]) S sz27 ?_ (ho:=rfl) (hx:=rfl) (hy:=rfl));clear S F;intro W S;(try simp only [gd27] at S);have F:=S.fc))
     refine bodyPost_ret (results_ct rfl _ _ gb325 25 #[.int .i64 0,.int .i64 0,.slice none 0 0] (0,0) _ rfl S.hb Try.underlying25 rfl (by kernel_rfl)) rfl ?_
     exact ⟨_,(by first | rfl | (simp [e0_,e1_] <;> rfl) | (simp [*,e0_,e1_] <;> rfl)),(by first | exact S.r | exact Kd.R_nil _ _ _ _ _),S.below⟩
 · skip
   replace c6:=cbf c6;subst c6
   simp only [Option.some.injEq,Prod.mk.injEq] at H
   obtain ⟨rfl,rfl,rfl,rfl⟩:=H
   go_enter Try.func5,Try.ntmps5
   go_wp2_with (first | ((with_reducible refine gd 4 rfl (L ?_));refine bo 4 (.agg #[_,_,_]) S ?_;clear S F;intro gb323 W S;have F:=S.fc) | ((with_reducible refine gd 7 rfl (L ?_));refine bo 7 (.agg #[_,_]) S ?_;clear S F;intro gb324 W S;have F:=S.fc) | ((with_reducible refine gd 8 rfl (L ?_));refine al 8 S zi25 ?_;clear S F;intro gb325 W S;have F:=S.fc) | ((with_reducible refine gate_callee (f:=30) rfl (L ?_));refine cl (some 14) Try.func30 (impl_onBoard.calls _ _ _ _ _ _ _ _ _ _ S.c S.n A5) (hargs:=by (simp only [ma_,mb_,mc_,F] <;> rfl)) (h:=?_);rintro e W ⟨rfl,hb⟩;refine ⟨_,rfl,?_⟩;replace S:=S.go hb;clear F hb;have F:=S.fc) | ((with_reducible refine gs (t:=25) rfl (L ?_));(first | refine sb (.agg #[_,_,_]) S sz25 ?_ | refine ro (.agg #[_,_,_]) S sz25 ?_ (ho:=rfl) (hx:=rfl) (hy:=rfl));clear S F;intro W S;(try simp only [gd27] at S);have F:=S.fc) | ((with_reducible refine gs (t:=27) rfl (L ?_));(first | refine sb (.agg #[_,_]) S sz27 ?_ | refine ro (.agg #[_,_]) S sz27 ?_ (ho:=rfl) (hx:=rfl) (hy:=rfl));clear S F;intro W S;(try simp only [gd27] at S);have F:=S.fc))
   refine bodyPost_ret (results_ct rfl _ _ gb325 25 #[.int .i64 0,.int .i64 0,.slice none 0 0] (0,0) _ rfl S.hb Try.underlying25 rfl (by kernel_rfl)) rfl ?_
   exact ⟨_,(by first | rfl | (simp [e0_,e1_] <;> rfl) | (simp [*,e0_,e1_] <;> rfl)),(by first | exact S.r | exact Kd.R_nil _ _ _ _ _),S.below⟩

/-! ### spec_l1In: function 48 -/
def spec_l1In.f (a0:Int) (a1:Int) (a2:Int):Option (Bool):=if a0 ≥ a1 then (some (decide (a0 ≤ a2))) else (some false)
theorem spec_l1In.calls (a0:Int) (a1:Int) (a2:Int) (r:Bool) (w:World) (h:spec_l1In.f a0 a1 a2 = some r) :
  Calls Try.prog 48 #[.int .i64 a0,.int .i64 a1,.int .i64 a2] w fun e w'=>e = .returned (.bool r)∧Drawn0 w w':=by
 have H:(if a0 ≥ a1 then (some (decide (a0 ≤ a2))) else (some false)) = some r:=h;clear h;by_cases c4:a0 ≥ a1
 ·rw [if_pos c4] at H;have c4b0:decide (a1 ≤ a0) = true:=decide_eq_true c4;clear c4;obtain rfl:=Option.some.inj H;go_enter Try.func48,Try.ntmps48;go_wp2;go_ret;exact ⟨by first | rfl | (simp;done) | (simp [*];done),by repeat (first | exact Drawn0.refl _ | apply Drawn0.step)⟩
 ·rw [if_neg c4] at H;have c4b0:decide (a1 ≤ a0) = false:=decide_eq_false c4;clear c4;obtain rfl:=Option.some.inj H;go_enter Try.func48,Try.ntmps48;go_wp2;go_ret;exact ⟨by first | rfl | (simp;done) | (simp [*];done),by repeat (first | exact Drawn0.refl _ | apply Drawn0.step)⟩

/-! ### spec_paGood: function 34 -/
def spec_paGood.f (a0_0:Int) (a0_1:Int):Option (Bool):=(spec_l1In.f a0_0 0 7).bind fun t336=>(if t336 = true then (if a0_1 = 0 then (some true) else (if a0_1 = 1 then ((spec_paTurning.f a0_0 a0_1).bind fun t337=>(some t337)) else (some false))) else (some false))
theorem spec_paGood.calls (a0_0:Int) (a0_1:Int) (r:Bool) (w:World) (h:spec_paGood.f a0_0 a0_1 = some r) :
    Calls Try.prog 34 #[.agg #[.int .i64 a0_0,.int .i64 a0_1]] w fun e w'=>e = .returned (.bool r)∧Below w.heap.size w w':=by
 have S:=St.init (w:=w) dn
 have F:=S.fc
 have H:=h;clear h;unfold spec_paGood.f at H
 replace H:=Option.bind_eq_some_iff.mp H;obtain ⟨t336,A2,H⟩:=H;(try dsimp only at H)
 replace H:=sp_ H;rcases H with ⟨c3,H⟩ | ⟨c3,H⟩
 · skip
   subst c3
   replace H:=sp_ H;rcases H with ⟨c4,H⟩ | ⟨c4,H⟩
   · skip
     replace c4:=ceq c4
     obtain rfl:=Option.some.inj H
     go_enter Try.func34,Try.ntmps34
     go_wp2_with (first | ((with_reducible refine gd 1 rfl (L ?_));refine bo 1 (.agg #[_,_]) S ?_;clear S F;intro gb335 W S;have F:=S.fc) | ((with_reducible refine gate_callee (f:=48) rfl (L ?_));refine cl (some 5) Try.func48 (spec_l1In.calls _ _ _ _ _ A2) (hargs:=by (simp only [ma_,mb_,mc_,F] <;> rfl)) (h:=?_);rintro e W ⟨rfl,hb⟩;refine ⟨_,rfl,?_⟩;replace S:=S.gw hb;clear F hb;have F:=S.fc))
     go_ret
     exact ⟨(by first | rfl | (simp [e0_,e1_] <;> rfl) | (simp [*,e0_,e1_] <;> rfl)),S.below⟩
   · skip
     replace c4:=cne c4
     replace H:=sp_ H;rcases H with ⟨c7,H⟩ | ⟨c7,H⟩
     · skip
       replace c7:=ceq c7
       replace H:=Option.bind_eq_some_iff.mp H;obtain ⟨t337,A8,H⟩:=H;(try dsimp only at H)
       obtain rfl:=Option.some.inj H
       go_enter Try.func34,Try.ntmps34
       go_wp2_with (first | ((with_reducible refine gd 1 rfl (L ?_));refine bo 1 (.agg #[_,_]) S ?_;clear S F;intro gb335 W S;have F:=S.fc) | ((with_reducible refine gate_callee (f:=48) rfl (L ?_));refine cl (some 5) Try.func48 (spec_l1In.calls _ _ _ _ _ A2) (hargs:=by (simp only [ma_,mb_,mc_,F] <;> rfl)) (h:=?_);rintro e W ⟨rfl,hb⟩;refine ⟨_,rfl,?_⟩;replace S:=S.gw hb;clear F hb;have F:=S.fc) | (go_at_call 53;(try simp only [F]);refine (spec_paTurning.calls _ _ _ _ A8).mono ?_;rintro e W ⟨rfl,hb⟩;replace S:=S.go hb;clear F hb;have F:=S.fc))
       go_ret
       exact ⟨(by first | rfl | (simp [e0_,e1_] <;> rfl) | (simp [*,e0_,e1_] <;> rfl)),S.below⟩
     · skip
       replace c7:=cne c7
       obtain rfl:=Option.some.inj H
       go_enter Try.func34,Try.ntmps34
       go_wp2_with (first | ((with_reducible refine gd 1 rfl (L ?_));refine bo 1 (.agg #[_,_]) S ?_;clear S F;intro gb335 W S;have F:=S.fc) | ((with_reducible refine gate_callee (f:=48) rfl (L ?_));refine cl (some 5) Try.func48 (spec_l1In.calls _ _ _ _ _ A2) (hargs:=by (simp only [ma_,mb_,mc_,F] <;> rfl)) (h:=?_);rintro e W ⟨rfl,hb⟩;refine ⟨_,rfl,?_⟩;replace S:=S.gw hb;clear F hb;have F:=S.fc))
       go_ret
       exact ⟨(by first | rfl | (simp [e0_,e1_] <;> rfl) | (simp [*,e0_,e1_] <;> rfl)),S.below⟩
 · skip
   replace c3:=cbf c3;subst c3
   obtain rfl:=Option.some.inj H
   go_enter Try.func34,Try.ntmps34
   go_wp2_with (first | ((with_reducible refine gd 1 rfl (L ?_));refine bo 1 (.agg #[_,_]) S ?_;clear S F;intro gb335 W S;have F:=S.fc) | ((with_reducible refine gate_callee (f:=48) rfl (L ?_));refine cl (some 5) Try.func48 (spec_l1In.calls _ _ _ _ _ A2) (hargs:=by (simp only [ma_,mb_,mc_,F] <;> rfl)) (h:=?_);rintro e W ⟨rfl,hb⟩;refine ⟨_,rfl,?_⟩;replace S:=S.gw hb;clear F hb;have F:=S.fc))
   go_ret
   exact ⟨(by first | rfl | (simp [e0_,e1_] <;> rfl) | (simp [*,e0_,e1_] <;> rfl)),S.below⟩
end Go.Proofs.Ytbbhacpahnnlcaa.F
