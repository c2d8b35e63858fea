-- Printed by a program; checked here.
import Derived.Test.YtnmffpfiichjgaaF0
import Derived.Test.YtnmffpfiichjgaaF1
import Derived.Test.YtnmffpfiichjgaaF3
namespace Go.Proofs.Ytnmffpfiichjgaa.F
open Go.RowKit Go.Proofs.YtnmffpfiichjgaaV.PrintWords Go.Proofs.YtnmffpfiichjgaaV.PrintLast Go.Proofs.YtnmffpfiichjgaaV.PrintMore Go.Proofs.YtnmffpfiichjgaaV.Sl Go.Proofs.YtnmffpfiichjgaaV.Rf
attribute [local go_sem] max2_int min2_int max_two min_two max_three min_three max_four min_four ia_opt it_opt
attribute [local go_sem] Try.underlying4 Try.underlying23 Try.underlying24 Try.underlying25 Try.underlying27 Try.underlying30 Try.underlying42 Try.underlying68 Try.underlying80 Try.underlying111
set_option maxHeartbeats 8000000
set_option maxRecDepth 100000
set_option linter.unusedVariables false
set_option linter.unusedSimpArgs false

attribute [local go_sem high] eqA42
/-! ### impl_IsCell: function 126 -/
def impl_IsCell.f (a0_0:Int) (a0_1:Int):Option (Bool):=if a0_0 < 0 then (some false) else (if a0_0 > 7 then (some false) else (if a0_1 < 0 then (some false) else (if a0_1 > 1 then (some false) else (if a0_1 = 0 then (some true) else (if a0_0 = 3 then (some true) else (some (a0_0 == 6)))))))
theorem impl_IsCell.calls (a0_0:Int) (a0_1:Int) (r:Bool) (w:World) (h:impl_IsCell.f a0_0 a0_1 = some r) :
    Calls Try.prog 126 #[.agg #[.int .i64 a0_0,.int .i64 a0_1]] w fun e w'=>e = .returned (.bool r)∧Below w.heap.size w w':=by
 have S:=St.init (w:=w) dn
 have F:=S.fc
 have H:=h;clear h;unfold impl_IsCell.f at H
 replace H:=sp_ H;rcases H with ⟨c2,H⟩ | ⟨c2,H⟩
 · skip
   obtain rfl:=Option.some.inj H
   go_enter Try.func126,Try.ntmps126
   go_wp2_with (first | ((with_reducible refine gd 1 rfl (L ?_));refine bo 1 (.agg #[_,_]) S ?_;clear S F;intro gb431 W S;have F:=S.fc))
   go_ret
   exact ⟨(by first | rfl | (simp [e0_,e1_] <;> rfl) | (simp [*,e0_,e1_] <;> rfl)),S.below⟩
 · skip
   replace H:=sp_ H;rcases H with ⟨c5,H⟩ | ⟨c5,H⟩
   · skip
     obtain rfl:=Option.some.inj H
     go_enter Try.func126,Try.ntmps126
     go_wp2_with (first | ((with_reducible refine gd 1 rfl (L ?_));refine bo 1 (.agg #[_,_]) S ?_;clear S F;intro gb431 W S;have F:=S.fc))
     go_ret
     exact ⟨(by first | rfl | (simp [e0_,e1_] <;> rfl) | (simp [*,e0_,e1_] <;> rfl)),S.below⟩
   · skip
     replace H:=sp_ H;rcases H with ⟨c8,H⟩ | ⟨c8,H⟩
     · skip
       obtain rfl:=Option.some.inj H
       go_enter Try.func126,Try.ntmps126
       go_wp2_with (first | ((with_reducible refine gd 1 rfl (L ?_));refine bo 1 (.agg #[_,_]) S ?_;clear S F;intro gb431 W S;have F:=S.fc))
       go_ret
       exact ⟨(by first | rfl | (simp [e0_,e1_] <;> rfl) | (simp [*,e0_,e1_] <;> rfl)),S.below⟩
     · skip
       replace H:=sp_ H;rcases H with ⟨c11,H⟩ | ⟨c11,H⟩
       · skip
         obtain rfl:=Option.some.inj H
         go_enter Try.func126,Try.ntmps126
         go_wp2_with (first | ((with_reducible refine gd 1 rfl (L ?_));refine bo 1 (.agg #[_,_]) S ?_;clear S F;intro gb431 W S;have F:=S.fc))
         go_ret
         exact ⟨(by first | rfl | (simp [e0_,e1_] <;> rfl) | (simp [*,e0_,e1_] <;> rfl)),S.below⟩
       · skip
         replace H:=sp_ H;rcases H with ⟨c14,H⟩ | ⟨c14,H⟩
         · skip
           replace c14:=ceq c14
           obtain rfl:=Option.some.inj H
           go_enter Try.func126,Try.ntmps126
           go_wp2_with (first | ((with_reducible refine gd 1 rfl (L ?_));refine bo 1 (.agg #[_,_]) S ?_;clear S F;intro gb431 W S;have F:=S.fc))
           go_ret
           exact ⟨(by first | rfl | (simp [e0_,e1_] <;> rfl) | (simp [*,e0_,e1_] <;> rfl)),S.below⟩
         · skip
           replace c14:=cne c14
           replace H:=sp_ H;rcases H with ⟨c17,H⟩ | ⟨c17,H⟩
           · skip
             replace c17:=ceq c17
             obtain rfl:=Option.some.inj H
             go_enter Try.func126,Try.ntmps126
             go_wp2_with (first | ((with_reducible refine gd 1 rfl (L ?_));refine bo 1 (.agg #[_,_]) S ?_;clear S F;intro gb431 W S;have F:=S.fc))
             go_ret
             exact ⟨(by first | rfl | (simp [e0_,e1_] <;> rfl) | (simp [*,e0_,e1_] <;> rfl)),S.below⟩
           · skip
             replace c17:=cne c17
             obtain rfl:=Option.some.inj H
             go_enter Try.func126,Try.ntmps126
             go_wp2_with (first | ((with_reducible refine gd 1 rfl (L ?_));refine bo 1 (.agg #[_,_]) S ?_;clear S F;intro gb431 W S;have F:=S.fc))
             go_ret
             exact ⟨(by first | rfl | (simp [e0_,e1_] <;> rfl) | (simp [*,e0_,e1_] <;> rfl)),S.below⟩

/-! ### impl_IsChallenge: function 37 -/
mutual
def impl_IsChallenge.j0:Nat→Bool→Int→Int→List (S42)→List Int→List Int→Option (Bool)
  | 0,_,_,_,_,_,_=>none
  | k + 1,x59,x433000,x433001,x433002,x433003,x433004=>if x59 = true then (some false) else (impl_IsChallenge.l0 k x433002 (x433002.length:Int) 0 x433000 x433001 x433002 x433003 x433004)
def impl_IsChallenge.l0:Nat→List (S42)→Int→Int→Int→Int→List (S42)→List Int→List Int→Option (Bool)
  | 0,_,_,_,_,_,_,_,_=>none
  | k + 1,x61,x62,x63,x433000,x433001,x433002,x433003,x433004=>if x63 < x62 then (if 0 ≤ x63 then (if x63 < (x61.length:Int) then ((impl_IsCell.f ((rd_T42 x61 x63).f0) ((rd_T42 x61 x63).f1)).bind fun t435=>(if t435 = true then (if ((rd_T42 x61 x63).f0) = 0 then (some false) else (if x63 ≤ (x433002.length:Int) then ((impl_Cell_99.f k (x433002.take (x63:Int).toNat) ((rd_T42 x61 x63).f0) ((rd_T42 x61 x63).f1)).bind fun t440=>(if t440 = true then (some false) else (impl_IsChallenge.l0 k x61 x62 (wrap64 (x63 + 1)) x433000 x433001 x433002 x433003 x433004))) else (none))) else (some false))) else (none)) else (none)) else (impl_IsChallenge.l1 k x433003 (x433003.length:Int) 0 x433000 x433001 x433002 x433003 x433004)
def impl_IsChallenge.l1:Nat→List Int→Int→Int→Int→Int→List (S42)→List Int→List Int→Option (Bool)
  | 0,_,_,_,_,_,_,_,_=>none
  | k + 1,x86,x87,x88,x433000,x433001,x433002,x433003,x433004=>if x88 < x87 then (if 0 ≤ x88 then (if x88 < (x86.length:Int) then (if (rd x86 x88) < 0 then (some false) else (if (rd x86 x88) ≥ x433001 then (some false) else (if x88 < (x433004.length:Int) then (if (rd x433004 x88) < 0 then (some false) else (if (rd x433004 x88) > (wrap64 (x433001 + 1)) then (some false) else (impl_IsChallenge.l1 k x86 x87 (wrap64 (x88 + 1)) x433000 x433001 x433002 x433003 x433004))) else (none)))) else (none)) else (none)) else (impl_IsChallenge.l2 k 1 0 x433000 x433001 x433002 x433003 x433004)
def impl_IsChallenge.l2:Nat→Int→Int→Int→Int→List (S42)→List Int→List Int→Option (Bool)
  | 0,_,_,_,_,_,_,_=>none
  | k + 1,x7,x8,x433000,x433001,x433002,x433003,x433004=>if x8 < (wrap64 (x433000 * x433001)) then (if (wrap64 (x7 * (wrap64 ((x433002.length:Int) + 1)))) > 7000 then (some false) else (impl_IsChallenge.l2 k (wrap64 (x7 * (wrap64 ((x433002.length:Int) + 1)))) (wrap64 (x8 + 1)) x433000 x433001 x433002 x433003 x433004)) else (some true)
end
def impl_IsChallenge.f (k:Nat) (a0_0:Int) (a0_1:Int) (l0_2:List (S42)) (l0_3:List Int) (l0_4:List Int):Option (Bool):=if a0_0 < 1 then (impl_IsChallenge.j0 k true a0_0 a0_1 l0_2 l0_3 l0_4) else (if a0_0 > 4 then (impl_IsChallenge.j0 k true a0_0 a0_1 l0_2 l0_3 l0_4) else (if a0_1 < 1 then (impl_IsChallenge.j0 k true a0_0 a0_1 l0_2 l0_3 l0_4) else (if a0_1 > 4 then (impl_IsChallenge.j0 k true a0_0 a0_1 l0_2 l0_3 l0_4) else (if (l0_2.length:Int) < 1 then (impl_IsChallenge.j0 k true a0_0 a0_1 l0_2 l0_3 l0_4) else (if (l0_2.length:Int) > 6 then (impl_IsChallenge.j0 k true a0_0 a0_1 l0_2 l0_3 l0_4) else (if (l0_3.length:Int) < 1 then (impl_IsChallenge.j0 k true a0_0 a0_1 l0_2 l0_3 l0_4) else (if (l0_3.length:Int) > 8 then (impl_IsChallenge.j0 k true a0_0 a0_1 l0_2 l0_3 l0_4) else (impl_IsChallenge.j0 k ((l0_4.length:Int) != (l0_3.length:Int)) a0_0 a0_1 l0_2 l0_3 l0_4))))))))
theorem impl_IsChallenge.calls (k:Nat) (a0_0:Int) (a0_1:Int) (A0_2:Option Addr) (c0_2:Nat) (l0_2:List (S42)) (A0_3:Option Addr) (c0_3:Nat) (l0_3:List Int) (A0_4:Option Addr) (c0_4:Nat) (l0_4:List Int) (r:Bool) (w:World) (hr0_2:Kd.C k42 w A0_2 l0_2.length l0_2) (hc0_2:l0_2.length ≤ c0_2) (hr0_3:Kd.C (Kd.int .i64) w A0_3 l0_3.length l0_3) (hc0_3:l0_3.length ≤ c0_3) (hr0_4:Kd.C (Kd.int .i64) w A0_4 l0_4.length l0_4) (hc0_4:l0_4.length ≤ c0_4) (h:impl_IsChallenge.f k a0_0 a0_1 l0_2 l0_3 l0_4 = some r) :
    Calls Try.prog 37 #[.agg #[.int .i64 a0_0,.int .i64 a0_1,.slice A0_2 l0_2.length c0_2,.slice A0_3 l0_3.length c0_3,.slice A0_4 l0_4.length c0_4]] w fun e w'=>e = .returned (.bool r)∧Below w.heap.size w w':=by
 have S:=St.init (w:=w) (dc k42_heap at42 hr0_2 hc0_2 (dc (Kd.heap_int .i64) (atI .i64) hr0_3 hc0_3 (dc (Kd.heap_int .i64) (atI .i64) hr0_4 hc0_4 dn)))
 clear hr0_2 hc0_2 hr0_3 hc0_3 hr0_4 hc0_4
 have F:=S.fc
 have H:=h;clear h;unfold impl_IsChallenge.f at H
 go_enter Try.func37,Try.ntmps37
 go_upto_region 1 with (first | ((with_reducible refine gd 1 rfl (L ?_));refine bo 1 (.agg #[_,_,_,_,_]) S ?_;clear S F;intro gb432 W S;have F:=S.fc) | ((with_reducible refine gs (t:=42) rfl (L ?_));(first | refine sb (.agg #[_,_]) S sz42 ?_ | refine ro (.agg #[_,_]) S sz42 ?_ (ho:=rfl) (hx:=rfl) (hy:=rfl));(clear S F;intro W S;have F:=S.fc)))
 (try simp only [Act.put,List.setIfInBounds_toArray,List.set_cons_zero,List.set_cons_succ])
 go_cut [59] (fun v59 wc=>∃ (kq:Nat) (x59_1:Bool),v59 = .bool x59_1∧impl_IsChallenge.j0 kq x59_1 a0_0 a0_1 l0_2 l0_3 l0_4 = some r∧kq ≤ k∧St w w (fun _=>False) [bor at42 A0_2 c0_2 l0_2,bor (atI .i64) A0_3 c0_3 l0_3,bor (atI .i64) A0_4 c0_4 l0_4] wc  [box gb432 27 [.int .i64 a0_0,.int .i64 a0_1,.slice A0_2 l0_2.length c0_2,.slice A0_3 l0_3.length c0_3,.slice A0_4 l0_4.length c0_4]])
 case first =>
  replace H:=sp_ H;rcases H with ⟨c4,H⟩ | ⟨c4,H⟩
  · skip
    go_wp2_with (first | ((with_reducible refine gs (t:=42) rfl (L ?_));(first | refine sb (.agg #[_,_]) S sz42 ?_ | refine ro (.agg #[_,_]) S sz42 ?_ (ho:=rfl) (hx:=rfl) (hy:=rfl));(clear S F;intro W S;have F:=S.fc)))
    go_meet
    case rel=>exact ⟨_,true,(by first | rfl | (simp;done) | (simp [*];done) | (rw [w6_ (by omega) (by omega)])),H,(by first | omega | exact Nat.le_refl _),S⟩
  · skip
    replace H:=sp_ H;rcases H with ⟨c6,H⟩ | ⟨c6,H⟩
    · skip
      go_wp2_with (first | ((with_reducible refine gs (t:=42) rfl (L ?_));(first | refine sb (.agg #[_,_]) S sz42 ?_ | refine ro (.agg #[_,_]) S sz42 ?_ (ho:=rfl) (hx:=rfl) (hy:=rfl));(clear S F;intro W S;have F:=S.fc)))
      go_meet
      case rel=>exact ⟨_,true,(by first | rfl | (simp;done) | (simp [*];done) | (rw [w6_ (by omega) (by omega)])),H,(by first | omega | exact Nat.le_refl _),S⟩
    · skip
      replace H:=sp_ H;rcases H with ⟨c8,H⟩ | ⟨c8,H⟩
      · skip
        go_wp2_with (first | ((with_reducible refine gs (t:=42) rfl (L ?_));(first | refine sb (.agg #[_,_]) S sz42 ?_ | refine ro (.agg #[_,_]) S sz42 ?_ (ho:=rfl) (hx:=rfl) (hy:=rfl));(clear S F;intro W S;have F:=S.fc)))
        go_meet
        case rel=>exact ⟨_,true,(by first | rfl | (simp;done) | (simp [*];done) | (rw [w6_ (by omega) (by omega)])),H,(by first | omega | exact Nat.le_refl _),S⟩
      · skip
        replace H:=sp_ H;rcases H with ⟨c10,H⟩ | ⟨c10,H⟩
        · skip
          go_wp2_with (first | ((with_reducible refine gs (t:=42) rfl (L ?_));(first | refine sb (.agg #[_,_]) S sz42 ?_ | refine ro (.agg #[_,_]) S sz42 ?_ (ho:=rfl) (hx:=rfl) (hy:=rfl));(clear S F;intro W S;have F:=S.fc)))
          go_meet
          case rel=>exact ⟨_,true,(by first | rfl | (simp;done) | (simp [*];done) | (rw [w6_ (by omega) (by omega)])),H,(by first | omega | exact Nat.le_refl _),S⟩
        · skip
          replace H:=sp_ H;rcases H with ⟨c12,H⟩ | ⟨c12,H⟩
          · skip
            go_wp2_with (first | ((with_reducible refine gs (t:=42) rfl (L ?_));(first | refine sb (.agg #[_,_]) S sz42 ?_ | refine ro (.agg #[_,_]) S sz42 ?_ (ho:=rfl) (hx:=rfl) (hy:=rfl));(clear S F;intro W S;have F:=S.fc)))
            go_meet
            case rel=>exact ⟨_,true,(by first | rfl | (simp;done) | (simp [*];done) | (rw [w6_ (by omega) (by omega)])),H,(by first | omega | exact Nat.le_refl _),S⟩
          · skip
            replace H:=sp_ H;rcases H with ⟨c14,H⟩ | ⟨c14,H⟩
            · skip
              go_wp2_with (first | ((with_reducible refine gs (t:=42) rfl (L ?_));(first | refine sb (.agg #[_,_]) S sz42 ?_ | refine ro (.agg #[_,_]) S sz42 ?_ (ho:=rfl) (hx:=rfl) (hy:=rfl));(clear S F;intro W S;have F:=S.fc)))
              go_meet
              case rel=>exact ⟨_,true,(by first | rfl | (simp;done) | (simp [*];done) | (rw [w6_ (by omega) (by omega)])),H,(by first | omega | exact Nat.le_refl _),S⟩
            · skip
              replace H:=sp_ H;rcases H with ⟨c16,H⟩ | ⟨c16,H⟩
              · skip
                go_wp2_with (first | ((with_reducible refine gs (t:=42) rfl (L ?_));(first | refine sb (.agg #[_,_]) S sz42 ?_ | refine ro (.agg #[_,_]) S sz42 ?_ (ho:=rfl) (hx:=rfl) (hy:=rfl));(clear S F;intro W S;have F:=S.fc)))
                go_meet
                case rel=>exact ⟨_,true,(by first | rfl | (simp;done) | (simp [*];done) | (rw [w6_ (by omega) (by omega)])),H,(by first | omega | exact Nat.le_refl _),S⟩
              · skip
                replace H:=sp_ H;rcases H with ⟨c18,H⟩ | ⟨c18,H⟩
                · skip
                  go_wp2_with (first | ((with_reducible refine gs (t:=42) rfl (L ?_));(first | refine sb (.agg #[_,_]) S sz42 ?_ | refine ro (.agg #[_,_]) S sz42 ?_ (ho:=rfl) (hx:=rfl) (hy:=rfl));(clear S F;intro W S;have F:=S.fc)))
                  go_meet
                  case rel=>exact ⟨_,true,(by first | rfl | (simp;done) | (simp [*];done) | (rw [w6_ (by omega) (by omega)])),H,(by first | omega | exact Nat.le_refl _),S⟩
                · skip
                  go_wp2_with (first | ((with_reducible refine gs (t:=42) rfl (L ?_));(first | refine sb (.agg #[_,_]) S sz42 ?_ | refine ro (.agg #[_,_]) S sz42 ?_ (ho:=rfl) (hx:=rfl) (hy:=rfl));(clear S F;intro W S;have F:=S.fc)))
                  go_meet
                  case rel=>exact ⟨_,((l0_4.length:Int) != (l0_3.length:Int)),(by first | rfl | (simp;done) | (simp [*];done) | (rw [w6_ (by omega) (by omega)])),H,(by first | omega | exact Nat.le_refl _),S⟩
 case rest =>
  clear H S F
  obtain ⟨kq,x59_1,rfl,HA,HJ1,S⟩:=hcut
  have F:=S.fc
  cases kq with
  | zero=>exact absurd HA (by simp [impl_IsChallenge.j0])
  | succ kj1 =>
   have H:=HA;clear HA;simp only [impl_IsChallenge.j0,F] at H
   replace H:=sp_ H;rcases H with ⟨c21,H⟩ | ⟨c21,H⟩
   · skip
     subst c21
     obtain rfl:=Option.some.inj H
     go_wp2_with (first | ((with_reducible refine gs (t:=42) rfl (L ?_));(first | refine sb (.agg #[_,_]) S sz42 ?_ | refine ro (.agg #[_,_]) S sz42 ?_ (ho:=rfl) (hx:=rfl) (hy:=rfl));(clear S F;intro W S;have F:=S.fc)))
     go_ret
     exact ⟨(by first | rfl | (simp [e0_,e1_] <;> rfl) | (simp [*,e0_,e1_] <;> rfl)),S.below⟩
   · skip
     replace c21:=cbf c21;subst c21
     go_wp2_with (first | ((with_reducible refine gs (t:=42) rfl (L ?_));(first | refine sb (.agg #[_,_]) S sz42 ?_ | refine ro (.agg #[_,_]) S sz42 ?_ (ho:=rfl) (hx:=rfl) (hy:=rfl));(clear S F;intro W S;have F:=S.fc)))
     go_loopg [63] kj1 (fun kq v63 w'=>∃ (x63_2:Int),v63 = .int .i64 x63_2∧impl_IsChallenge.l0 kq l0_2 (l0_2.length:Int) x63_2 a0_0 a0_1 l0_2 l0_3 l0_4 = some r∧kq ≤ kj1∧St w w (fun _=>False) [bor at42 A0_2 c0_2 l0_2,bor (atI .i64) A0_3 c0_3 l0_3,bor (atI .i64) A0_4 c0_4 l0_4] w'  [box gb432 27 [.int .i64 a0_0,.int .i64 a0_1,.slice A0_2 l0_2.length c0_2,.slice A0_3 l0_3.length c0_3,.slice A0_4 l0_4.length c0_4]])
     case atStart=>exact ⟨0,(by first | rfl | (simp;done) | (simp [*];done) | (rw [w6_ (by omega) (by omega)])),H,Nat.le_refl _,S⟩
     case round =>
      clear H S F
      obtain ⟨x63_2,rfl,HA,HK2,S⟩:=hrel
      have F:=S.fc
      cases gk with
      | zero=>exact absurd HA (by simp [impl_IsChallenge.l0])
      | succ k2 =>
       have H:=HA;clear HA;simp only [impl_IsChallenge.l0,F] at H
       replace H:=sp_ H;rcases H with ⟨c23,H⟩ | ⟨c23,H⟩
       · skip
         replace H:=np_ H;obtain ⟨c24,H⟩:=H
         replace H:=np_ H;obtain ⟨c25,H⟩:=H
         replace H:=Option.bind_eq_some_iff.mp H;obtain ⟨t435,A26,H⟩:=H;(try dsimp only at H)
         replace H:=sp_ H;rcases H with ⟨c27,H⟩ | ⟨c27,H⟩
         · skip
           subst c27
           replace H:=sp_ H;rcases H with ⟨c28,H⟩ | ⟨c28,H⟩
           · skip
             replace c28:=ceq c28
             obtain rfl:=Option.some.inj H
             go_wp2_with (first | ((with_reducible refine gd 4 rfl (L ?_));refine al 4 S zi42 ?_;clear S F;intro gb434 W S;have F:=S.fc) | ((with_reducible refine gs (t:=42) rfl (L ?_));(first | refine sb (.agg #[_,_]) S sz42 ?_ | refine ro (.agg #[_,_]) S sz42 ?_ (ho:=rfl) (hx:=rfl) (hy:=rfl));(clear S F;intro W S;have F:=S.fc)))
             refine rq S [(1,0),(2,1),(0,2),(0,3),(0,4),(2,5),(0,6),(0,7),(0,8),(0,9),(0,10),(0,11),(0,12),(0,13),(0,14),(0,15)] [] (h:=?_);clear S F;intro W S;have S0:=S;have F:=S.fc
             repeat (first | (refine q0 (h:=?_)) | (refine q1 S0 (h:=?_)) | (refine q0n (h:=?_)) | (refine q1n S0 (h:=?_)) | (refine q2 S0 (h:=?_)))
             (try rw [Ny436.out] at A26);refine lk2 (by rfl) (by exact (Eq.refl true)) ?_;refine cl (some 69) Try.func126 (impl_IsCell.calls _ _ _ _ A26) (hargs:=by first | (simp only [ma_,mb_,mc_,F] <;> rfl) | (simp only [ma_,mb_,mc_,F,List.length_take,List.length_drop];rw [Nat.min_eq_left] <;> first | rfl | omega)) (h:=?_);rintro e W ⟨rfl,hb⟩;refine ⟨_,rfl,?_⟩;replace S:=S.go hb;clear F hb;have F:=S.fc
             clear S0;have S0:=S;refine ⟨S0,?_⟩
             repeat (first | (refine q0 (h:=?_)) | (refine q1 S0 (h:=?_)) | (refine q0n (h:=?_)) | (refine q1n S0 (h:=?_)) | (refine q2 S0 (h:=?_)))
             refine oz ?_
             try clear S0
             go_wp2_with (first | ((with_reducible refine gs (t:=42) rfl (L ?_));(first | refine sb (.agg #[_,_]) S sz42 ?_ | refine ro (.agg #[_,_]) S sz42 ?_ (ho:=rfl) (hx:=rfl) (hy:=rfl));(clear S F;intro W S;have F:=S.fc)))
             go_ret
             exact ⟨(by first | rfl | (simp [e0_,e1_] <;> rfl) | (simp [*,e0_,e1_] <;> rfl)),S.below⟩
           · skip
             replace c28:=cne c28
             replace H:=np_ H;obtain ⟨c36,H⟩:=H
             (first | (with_reducible replace H:=ob_ H;obtain ⟨y436,hy436,H⟩:=H;(try dsimp only at H)) | (obtain ⟨y436,hy436⟩:∃ y_:List (S42),y_ = (l0_2.take (x63_2:Int).toNat):=⟨_,rfl⟩;(try rw [← hy436] at H);(try simp only [Option.bind_some] at H)));have Ny436:=Aside0.mk hy436;clear hy436
             replace H:=Option.bind_eq_some_iff.mp H;obtain ⟨t440,A37,H⟩:=H;(try dsimp only at H)
             replace H:=sp_ H;rcases H with ⟨c38,H⟩ | ⟨c38,H⟩
             · skip
               subst c38
               obtain rfl:=Option.some.inj H
               go_wp2_with (first | ((with_reducible refine gd 4 rfl (L ?_));refine al 4 S zi42 ?_;clear S F;intro gb434 W S;have F:=S.fc) | ((with_reducible refine gs (t:=42) rfl (L ?_));(first | refine sb (.agg #[_,_]) S sz42 ?_ | refine ro (.agg #[_,_]) S sz42 ?_ (ho:=rfl) (hx:=rfl) (hy:=rfl));clear S F;intro W S;(try rw [← Ny436.out] at S);have F:=S.fc))
               refine rq S [(1,0),(2,1),(0,2),(0,3),(0,4),(2,5),(0,6),(0,7),(0,8),(0,9),(0,11),(1,10),(0,12),(2,13),(2,14),(0,15)] [] (h:=?_);clear S F;intro W S;have S0:=S;have F:=S.fc
               repeat (first | (refine q0 (h:=?_)) | (refine q1 S0 (h:=?_)) | (refine q0n (h:=?_)) | (refine q1n S0 (h:=?_)) | (refine q2 S0 (h:=?_)))
               (try rw [Ny436.out] at A26);refine lk2 (by rfl) (by exact (Eq.refl true)) ?_;refine cl (some 69) Try.func126 (impl_IsCell.calls _ _ _ _ A26) (hargs:=by first | (simp only [ma_,mb_,mc_,F] <;> rfl) | (simp only [ma_,mb_,mc_,F,List.length_take,List.length_drop];rw [Nat.min_eq_left] <;> first | rfl | omega)) (h:=?_);rintro e W ⟨rfl,hb⟩;refine ⟨_,rfl,?_⟩;replace S:=S.go hb;clear F hb;have F:=S.fc
               clear S0;have S0:=S;refine ⟨S0,?_⟩
               repeat (first | (refine q0 (h:=?_)) | (refine q1 S0 (h:=?_)) | (refine q0n (h:=?_)) | (refine q1n S0 (h:=?_)) | (refine q2 S0 (h:=?_)))
               (try rw [Ny436.out] at A37);refine lk2 (by rfl) (by exact (Eq.refl true)) ?_;refine cl (some 82) Try.func99 (impl_Cell_99.calls _ _ _ _ _ _ _ _ S.c S.n A37) (hargs:=by first | (simp only [ma_,mb_,mc_,F] <;> rfl) | (simp only [ma_,mb_,mc_,F,List.length_take,List.length_drop];rw [Nat.min_eq_left] <;> first | rfl | omega)) (h:=?_);rintro e W ⟨rfl,hb⟩;refine ⟨_,rfl,?_⟩;replace S:=S.go hb;clear F hb;have F:=S.fc
               clear S0;have S0:=S;refine ⟨S0,?_⟩
               repeat (first | (refine q0 (h:=?_)) | (refine q1 S0 (h:=?_)) | (refine q0n (h:=?_)) | (refine q1n S0 (h:=?_)) | (refine q2 S0 (h:=?_)))
               refine oz ?_
               try clear S0
               go_wp2_with (first | ((with_reducible refine gs (t:=42) rfl (L ?_));(first | refine sb (.agg #[_,_]) S sz42 ?_ | refine ro (.agg #[_,_]) S sz42 ?_ (ho:=rfl) (hx:=rfl) (hy:=rfl));clear S F;intro W S;(try rw [← Ny436.out] at S);have F:=S.fc))
               go_ret
               exact ⟨(by first | rfl | (simp [e0_,e1_] <;> rfl) | (simp [*,e0_,e1_] <;> rfl)),S.below⟩
             · skip
               replace c38:=cbf c38;subst c38
               go_wp2_with (first | ((with_reducible refine gd 4 rfl (L ?_));refine al 4 S zi42 ?_;clear S F;intro gb434 W S;have F:=S.fc) | ((with_reducible refine gs (t:=42) rfl (L ?_));(first | refine sb (.agg #[_,_]) S sz42 ?_ | refine ro (.agg #[_,_]) S sz42 ?_ (ho:=rfl) (hx:=rfl) (hy:=rfl));clear S F;intro W S;(try rw [← Ny436.out] at S);have F:=S.fc))
               refine rq S [(1,0),(2,1),(0,2),(0,3),(0,4),(2,5),(0,6),(0,7),(0,8),(0,9),(0,11),(1,10),(0,12),(2,13),(2,14),(0,15)] [] (h:=?_);clear S F;intro W S;have S0:=S;have F:=S.fc
               repeat (first | (refine q0 (h:=?_)) | (refine q1 S0 (h:=?_)) | (refine q0n (h:=?_)) | (refine q1n S0 (h:=?_)) | (refine q2 S0 (h:=?_)))
               (try rw [Ny436.out] at A26);refine lk2 (by rfl) (by exact (Eq.refl true)) ?_;refine cl (some 69) Try.func126 (impl_IsCell.calls _ _ _ _ A26) (hargs:=by first | (simp only [ma_,mb_,mc_,F] <;> rfl) | (simp only [ma_,mb_,mc_,F,List.length_take,List.length_drop];rw [Nat.min_eq_left] <;> first | rfl | omega)) (h:=?_);rintro e W ⟨rfl,hb⟩;refine ⟨_,rfl,?_⟩;replace S:=S.go hb;clear F hb;have F:=S.fc
               clear S0;have S0:=S;refine ⟨S0,?_⟩
               repeat (first | (refine q0 (h:=?_)) | (refine q1 S0 (h:=?_)) | (refine q0n (h:=?_)) | (refine q1n S0 (h:=?_)) | (refine q2 S0 (h:=?_)))
               (try rw [Ny436.out] at A37);refine lk2 (by rfl) (by exact (Eq.refl true)) ?_;refine cl (some 82) Try.func99 (impl_Cell_99.calls _ _ _ _ _ _ _ _ S.c S.n A37) (hargs:=by first | (simp only [ma_,mb_,mc_,F] <;> rfl) | (simp only [ma_,mb_,mc_,F,List.length_take,List.length_drop];rw [Nat.min_eq_left] <;> first | rfl | omega)) (h:=?_);rintro e W ⟨rfl,hb⟩;refine ⟨_,rfl,?_⟩;replace S:=S.go hb;clear F hb;have F:=S.fc
               clear S0;have S0:=S;refine ⟨S0,?_⟩
               repeat (first | (refine q0 (h:=?_)) | (refine q1 S0 (h:=?_)) | (refine q0n (h:=?_)) | (refine q1n S0 (h:=?_)) | (refine q2 S0 (h:=?_)))
               refine oz ?_
               try clear S0
               go_wp2_with (first | ((with_reducible refine gs (t:=42) rfl (L ?_));(first | refine sb (.agg #[_,_]) S sz42 ?_ | refine ro (.agg #[_,_]) S sz42 ?_ (ho:=rfl) (hx:=rfl) (hy:=rfl));clear S F;intro W S;(try rw [← Ny436.out] at S);have F:=S.fc))
               go_roundg k2
               case measure=>omega
               case rel=>exact ⟨(wrap64 (x63_2 + 1)),(by first | rfl | (simp;done) | (simp [*];done) | (rw [w6_ (by omega) (by omega)])),H,(by first | omega | exact Nat.le_refl _),S.tl⟩
         · skip
           replace c27:=cbf c27;subst c27
           obtain rfl:=Option.some.inj H
           go_wp2_with (first | ((with_reducible refine gd 4 rfl (L ?_));refine al 4 S zi42 ?_;clear S F;intro gb434 W S;have F:=S.fc) | ((with_reducible refine gs (t:=42) rfl (L ?_));(first | refine sb (.agg #[_,_]) S sz42 ?_ | refine ro (.agg #[_,_]) S sz42 ?_ (ho:=rfl) (hx:=rfl) (hy:=rfl));(clear S F;intro W S;have F:=S.fc)))
           refine rq S [(1,0),(2,1),(0,2),(0,3),(0,4),(0,5),(0,6),(0,7),(0,8),(0,9),(0,10),(0,11),(0,12),(0,13),(0,14),(0,15)] [] (h:=?_);clear S F;intro W S;have S0:=S;have F:=S.fc
           repeat (first | (refine q0 (h:=?_)) | (refine q1 S0 (h:=?_)) | (refine q0n (h:=?_)) | (refine q1n S0 (h:=?_)))
           (try rw [Ny436.out] at A26);refine lk2 (by rfl) (by exact (Eq.refl true)) ?_;refine cl (some 69) Try.func126 (impl_IsCell.calls _ _ _ _ A26) (hargs:=by first | (simp only [ma_,mb_,mc_,F] <;> rfl) | (simp only [ma_,mb_,mc_,F,List.length_take,List.length_drop];rw [Nat.min_eq_left] <;> first | rfl | omega)) (h:=?_);rintro e W ⟨rfl,hb⟩;refine ⟨_,rfl,?_⟩;replace S:=S.go hb;clear F hb;have F:=S.fc
           clear S0;have S0:=S;refine ⟨S0,?_⟩
           repeat (first | (refine q0 (h:=?_)) | (refine q1 S0 (h:=?_)) | (refine q0n (h:=?_)) | (refine q1n S0 (h:=?_)))
           refine oz ?_
           try clear S0
           go_wp2_with (first | ((with_reducible refine gs (t:=42) rfl (L ?_));(first | refine sb (.agg #[_,_]) S sz42 ?_ | refine ro (.agg #[_,_]) S sz42 ?_ (ho:=rfl) (hx:=rfl) (hy:=rfl));(clear S F;intro W S;have F:=S.fc)))
           go_ret
           exact ⟨(by first | rfl | (simp [e0_,e1_] <;> rfl) | (simp [*,e0_,e1_] <;> rfl)),S.below⟩
       · skip
         go_wp2_with (first | ((with_reducible refine gs (t:=42) rfl (L ?_));(first | refine sb (.agg #[_,_]) S sz42 ?_ | refine ro (.agg #[_,_]) S sz42 ?_ (ho:=rfl) (hx:=rfl) (hy:=rfl));(clear S F;intro W S;have F:=S.fc)))
         go_loopg [88] k2 (fun kq v88 w'=>∃ (x88_3:Int),v88 = .int .i64 x88_3∧impl_IsChallenge.l1 kq l0_3 (l0_3.length:Int) x88_3 a0_0 a0_1 l0_2 l0_3 l0_4 = some r∧kq ≤ k2∧St w w (fun _=>False) [bor at42 A0_2 c0_2 l0_2,bor (atI .i64) A0_3 c0_3 l0_3,bor (atI .i64) A0_4 c0_4 l0_4] w'  [box gb432 27 [.int .i64 a0_0,.int .i64 a0_1,.slice A0_2 l0_2.length c0_2,.slice A0_3 l0_3.length c0_3,.slice A0_4 l0_4.length c0_4]])
         case atStart=>exact ⟨0,(by first | rfl | (simp;done) | (simp [*];done) | (rw [w6_ (by omega) (by omega)])),H,Nat.le_refl _,S⟩
         case round =>
          clear H S F
          obtain ⟨x88_3,rfl,HA,HK3,S⟩:=hrel
          have F:=S.fc
          cases gk with
          | zero=>exact absurd HA (by simp [impl_IsChallenge.l1])
          | succ k3 =>
           have H:=HA;clear HA;simp only [impl_IsChallenge.l1,F] at H
           replace H:=sp_ H;rcases H with ⟨c62,H⟩ | ⟨c62,H⟩
           · skip
             replace H:=np_ H;obtain ⟨c63,H⟩:=H
             replace H:=np_ H;obtain ⟨c64,H⟩:=H
             replace H:=sp_ H;rcases H with ⟨c65,H⟩ | ⟨c65,H⟩
             · skip
               obtain rfl:=Option.some.inj H
               go_wp2_with (first | ((with_reducible refine gs (t:=42) rfl (L ?_));(first | refine sb (.agg #[_,_]) S sz42 ?_ | refine ro (.agg #[_,_]) S sz42 ?_ (ho:=rfl) (hx:=rfl) (hy:=rfl));(clear S F;intro W S;have F:=S.fc)))
               (try have q65_:=Int.not_lt.mpr c65);(try have r65_:=Int.not_le.mpr c65);(try have q62_:=Int.not_lt.mpr c62);(try have r62_:=Int.not_le.mpr c62)
               refine rq S [(0,0),(0,1),(0,2),(0,3),(0,4),(0,5),(0,6),(0,7),(0,8),(0,9),(0,10),(0,11),(0,12),(0,13),(0,14),(0,15),(0,16),(0,17),(0,18),(0,19),(0,20),(0,21),(0,22),(0,23),(0,24),(0,25),(0,26)] [] (h:=?_);clear S F;intro W S;have S0:=S;have F:=S.fc
               repeat (first | (refine q0 (h:=?_)) | (refine q1 S0 (h:=?_)) | (refine q0n (h:=?_)) | (refine q1n S0 (h:=?_)))
               refine oz ?_
               try clear S0
               go_wp2_with (first | ((with_reducible refine gs (t:=42) rfl (L ?_));(first | refine sb (.agg #[_,_]) S sz42 ?_ | refine ro (.agg #[_,_]) S sz42 ?_ (ho:=rfl) (hx:=rfl) (hy:=rfl));(clear S F;intro W S;have F:=S.fc)))
               go_ret
               exact ⟨(by first | rfl | (simp [e0_,e1_] <;> rfl) | (simp [*,e0_,e1_] <;> rfl)),S.below⟩
             · skip
               replace H:=sp_ H;rcases H with ⟨c67,H⟩ | ⟨c67,H⟩
               · skip
                 obtain rfl:=Option.some.inj H
                 go_wp2_with (first | ((with_reducible refine gs (t:=42) rfl (L ?_));(first | refine sb (.agg #[_,_]) S sz42 ?_ | refine ro (.agg #[_,_]) S sz42 ?_ (ho:=rfl) (hx:=rfl) (hy:=rfl));(clear S F;intro W S;have F:=S.fc)))
                 (try have q67_:=Int.not_lt.mpr c67);(try have r67_:=Int.not_le.mpr c67);(try have q65_:=Int.not_lt.mpr c65);(try have r65_:=Int.not_le.mpr c65);(try have q62_:=Int.not_lt.mpr c62);(try have r62_:=Int.not_le.mpr c62)
                 refine rq S [(0,0),(0,1),(0,2),(0,3),(0,4),(1,5),(0,6),(0,7),(0,8),(0,9),(0,10),(0,11),(0,12),(0,13),(0,14),(0,15),(0,16),(0,17),(0,18),(0,19),(0,20),(0,21),(0,22),(0,23),(0,24),(0,25),(0,26)] [] (h:=?_);clear S F;intro W S;have S0:=S;have F:=S.fc
                 repeat (first | (refine q0 (h:=?_)) | (refine q1 S0 (h:=?_)) | (refine q0n (h:=?_)) | (refine q1n S0 (h:=?_)))
                 refine oz ?_
                 try clear S0
                 go_wp2_with (first | ((with_reducible refine gs (t:=42) rfl (L ?_));(first | refine sb (.agg #[_,_]) S sz42 ?_ | refine ro (.agg #[_,_]) S sz42 ?_ (ho:=rfl) (hx:=rfl) (hy:=rfl));(clear S F;intro W S;have F:=S.fc)))
                 go_ret
                 exact ⟨(by first | rfl | (simp [e0_,e1_] <;> rfl) | (simp [*,e0_,e1_] <;> rfl)),S.below⟩
               · skip
                 replace H:=np_ H;obtain ⟨c69,H⟩:=H
                 replace H:=sp_ H;rcases H with ⟨c70,H⟩ | ⟨c70,H⟩
                 · skip
                   obtain rfl:=Option.some.inj H
                   go_wp2_with (first | ((with_reducible refine gs (t:=42) rfl (L ?_));(first | refine sb (.agg #[_,_]) S sz42 ?_ | refine ro (.agg #[_,_]) S sz42 ?_ (ho:=rfl) (hx:=rfl) (hy:=rfl));(clear S F;intro W S;have F:=S.fc)))
                   (try have q70_:=Int.not_lt.mpr c70);(try have r70_:=Int.not_le.mpr c70);(try have q67_:=Int.not_lt.mpr c67);(try have r67_:=Int.not_le.mpr c67);(try have q65_:=Int.not_lt.mpr c65);(try have r65_:=Int.not_le.mpr c65);(try have q62_:=Int.not_lt.mpr c62);(try have r62_:=Int.not_le.mpr c62)
                   refine rq S [(0,0),(0,1),(0,2),(0,3),(0,4),(1,5),(0,6),(0,7),(0,8),(0,9),(0,11),(1,10),(0,12),(1,13),(0,14),(0,15),(0,16),(0,17),(0,18),(0,19),(0,20),(0,21),(0,22),(0,23),(0,24),(0,25),(0,26)] [] (h:=?_);clear S F;intro W S;have S0:=S;have F:=S.fc
                   repeat (first | (refine q0 (h:=?_)) | (refine q1 S0 (h:=?_)) | (refine q0n (h:=?_)) | (refine q1n S0 (h:=?_)))
                   refine oz ?_
                   try clear S0
                   go_wp2_with (first | ((with_reducible refine gs (t:=42) rfl (L ?_));(first | refine sb (.agg #[_,_]) S sz42 ?_ | refine ro (.agg #[_,_]) S sz42 ?_ (ho:=rfl) (hx:=rfl) (hy:=rfl));(clear S F;intro W S;have F:=S.fc)))
                   go_ret
                   exact ⟨(by first | rfl | (simp [e0_,e1_] <;> rfl) | (simp [*,e0_,e1_] <;> rfl)),S.below⟩
                 · skip
                   replace H:=sp_ H;rcases H with ⟨c72,H⟩ | ⟨c72,H⟩
                   · skip
                     obtain rfl:=Option.some.inj H
                     go_wp2_with (first | ((with_reducible refine gs (t:=42) rfl (L ?_));(first | refine sb (.agg #[_,_]) S sz42 ?_ | refine ro (.agg #[_,_]) S sz42 ?_ (ho:=rfl) (hx:=rfl) (hy:=rfl));(clear S F;intro W S;have F:=S.fc)))
                     (try have q72_:=Int.not_lt.mpr c72);(try have r72_:=Int.not_le.mpr c72);(try have q70_:=Int.not_lt.mpr c70);(try have r70_:=Int.not_le.mpr c70);(try have q67_:=Int.not_lt.mpr c67);(try have r67_:=Int.not_le.mpr c67);(try have q65_:=Int.not_lt.mpr c65);(try have r65_:=Int.not_le.mpr c65);(try have q62_:=Int.not_lt.mpr c62);(try have r62_:=Int.not_le.mpr c62)
                     refine rq S [(0,0),(0,1),(0,2),(0,3),(0,4),(1,5),(0,6),(0,7),(0,8),(0,9),(0,11),(1,10),(0,12),(1,13),(0,14),(0,15),(0,16),(0,17),(0,19),(0,22),(1,18),(0,20),(1,21),(1,23),(0,24),(0,25),(0,26)] [] (h:=?_);clear S F;intro W S;have S0:=S;have F:=S.fc
                     repeat (first | (refine q0 (h:=?_)) | (refine q1 S0 (h:=?_)) | (refine q0n (h:=?_)) | (refine q1n S0 (h:=?_)))
                     refine oz ?_
                     try clear S0
                     go_wp2_with (first | ((with_reducible refine gs (t:=42) rfl (L ?_));(first | refine sb (.agg #[_,_]) S sz42 ?_ | refine ro (.agg #[_,_]) S sz42 ?_ (ho:=rfl) (hx:=rfl) (hy:=rfl));(clear S F;intro W S;have F:=S.fc)))
                     go_ret
                     exact ⟨(by first | rfl | (simp [e0_,e1_] <;> rfl) | (simp [*,e0_,e1_] <;> rfl)),S.below⟩
                   · skip
                     go_wp2_with (first | ((with_reducible refine gs (t:=42) rfl (L ?_));(first | refine sb (.agg #[_,_]) S sz42 ?_ | refine ro (.agg #[_,_]) S sz42 ?_ (ho:=rfl) (hx:=rfl) (hy:=rfl));(clear S F;intro W S;have F:=S.fc)))
                     (try have q72_:=Int.not_lt.mpr c72);(try have r72_:=Int.not_le.mpr c72);(try have q70_:=Int.not_lt.mpr c70);(try have r70_:=Int.not_le.mpr c70);(try have q67_:=Int.not_lt.mpr c67);(try have r67_:=Int.not_le.mpr c67);(try have q65_:=Int.not_lt.mpr c65);(try have r65_:=Int.not_le.mpr c65);(try have q62_:=Int.not_lt.mpr c62);(try have r62_:=Int.not_le.mpr c62)
                     refine rq S [(0,0),(0,1),(0,2),(0,3),(0,4),(1,5),(0,6),(0,7),(0,8),(0,9),(0,11),(1,10),(0,12),(1,13),(0,14),(0,15),(0,16),(0,17),(0,19),(0,22),(1,18),(0,20),(1,21),(1,23),(0,24),(0,25),(0,26)] [] (h:=?_);clear S F;intro W S;have S0:=S;have F:=S.fc
                     repeat (first | (refine q0 (h:=?_)) | (refine q1 S0 (h:=?_)) | (refine q0n (h:=?_)) | (refine q1n S0 (h:=?_)))
                     refine oz ?_
                     try clear S0
                     go_wp2_with (first | ((with_reducible refine gs (t:=42) rfl (L ?_));(first | refine sb (.agg #[_,_]) S sz42 ?_ | refine ro (.agg #[_,_]) S sz42 ?_ (ho:=rfl) (hx:=rfl) (hy:=rfl));(clear S F;intro W S;have F:=S.fc)))
                     go_roundg k3
                     case measure=>omega
                     case rel=>exact ⟨(wrap64 (x88_3 + 1)),(by first | rfl | (simp;done) | (simp [*];done) | (rw [w6_ (by omega) (by omega)])),H,(by first | omega | exact Nat.le_refl _),S⟩
           · skip
             go_wp2_with (first | ((with_reducible refine gs (t:=42) rfl (L ?_));(first | refine sb (.agg #[_,_]) S sz42 ?_ | refine ro (.agg #[_,_]) S sz42 ?_ (ho:=rfl) (hx:=rfl) (hy:=rfl));(clear S F;intro W S;have F:=S.fc)))
             go_loopg [7,8] k3 (fun kq v7 v8 w'=>∃ (x7_4:Int) (x8_4:Int),v7 = .int .i64 x7_4∧v8 = .int .i64 x8_4∧impl_IsChallenge.l2 kq x7_4 x8_4 a0_0 a0_1 l0_2 l0_3 l0_4 = some r∧kq ≤ k3∧St w w (fun _=>False) [bor at42 A0_2 c0_2 l0_2,bor (atI .i64) A0_3 c0_3 l0_3,bor (atI .i64) A0_4 c0_4 l0_4] w'  [box gb432 27 [.int .i64 a0_0,.int .i64 a0_1,.slice A0_2 l0_2.length c0_2,.slice A0_3 l0_3.length c0_3,.slice A0_4 l0_4.length c0_4]])
             case atStart=>exact ⟨1,0,(by first | rfl | (simp;done) | (simp [*];done) | (rw [w6_ (by omega) (by omega)])),(by first | rfl | (simp;done) | (simp [*];done) | (rw [w6_ (by omega) (by omega)])),H,Nat.le_refl _,S⟩
             case round =>
              clear H S F
              obtain ⟨x7_4,x8_4,rfl,rfl,HA,HK4,S⟩:=hrel
              have F:=S.fc
              cases gk with
              | zero=>exact absurd HA (by simp [impl_IsChallenge.l2])
              | succ k4 =>
               have H:=HA;clear HA;simp only [impl_IsChallenge.l2,F] at H
               replace H:=sp_ H;rcases H with ⟨c75,H⟩ | ⟨c75,H⟩
               · skip
                 replace H:=sp_ H;rcases H with ⟨c76,H⟩ | ⟨c76,H⟩
                 · skip
                   obtain rfl:=Option.some.inj H
                   go_wp2_with (first | ((with_reducible refine gs (t:=42) rfl (L ?_));(first | refine sb (.agg #[_,_]) S sz42 ?_ | refine ro (.agg #[_,_]) S sz42 ?_ (ho:=rfl) (hx:=rfl) (hy:=rfl));(clear S F;intro W S;have F:=S.fc)))
                   go_ret
                   exact ⟨(by first | rfl | (simp [e0_,e1_] <;> rfl) | (simp [*,e0_,e1_] <;> rfl)),S.below⟩
                 · skip
                   go_wp2_with (first | ((with_reducible refine gs (t:=42) rfl (L ?_));(first | refine sb (.agg #[_,_]) S sz42 ?_ | refine ro (.agg #[_,_]) S sz42 ?_ (ho:=rfl) (hx:=rfl) (hy:=rfl));(clear S F;intro W S;have F:=S.fc)))
                   go_roundg k4
                   case measure=>omega
                   case rel=>exact ⟨(wrap64 (x7_4 * (wrap64 ((l0_2.length:Int) + 1)))),(wrap64 (x8_4 + 1)),(by first | rfl | (simp;done) | (simp [*];done) | (rw [w6_ (by omega) (by omega)])),(by first | rfl | (simp;done) | (simp [*];done) | (rw [w6_ (by omega) (by omega)])),H,(by first | omega | exact Nat.le_refl _),S⟩
               · skip
                 obtain rfl:=Option.some.inj H
                 go_wp2_with (first | ((with_reducible refine gs (t:=42) rfl (L ?_));(first | refine sb (.agg #[_,_]) S sz42 ?_ | refine ro (.agg #[_,_]) S sz42 ?_ (ho:=rfl) (hx:=rfl) (hy:=rfl));(clear S F;intro W S;have F:=S.fc)))
                 go_ret
                 exact ⟨(by first | rfl | (simp [e0_,e1_] <;> rfl) | (simp [*,e0_,e1_] <;> rfl)),S.below⟩

/-! ### impl_endNumber: function 121 -/
def impl_endNumber.f (a0_0:Int) (a0_1:Int) (l0_2:List (S42)) (a1_0:Int) (a1_1:Int) (a1_2:Int):Option (Int):=if a1_0 = 1 then (some a1_2) else (if a1_0 = 2 then (some a0_1) else (some (wrap64 (a0_1 + 1))))
theorem impl_endNumber.calls (a0_0:Int) (a0_1:Int) (A0_2:Option Addr) (c0_2:Nat) (l0_2:List (S42)) (a1_0:Int) (a1_1:Int) (a1_2:Int) (r:Int) (w:World) (hr0_2:Kd.C k42 w A0_2 l0_2.length l0_2) (hc0_2:l0_2.length ≤ c0_2) (h:impl_endNumber.f a0_0 a0_1 l0_2 a1_0 a1_1 a1_2 = some r) :
    Calls Try.prog 121 #[.agg #[.int .i64 a0_0,.int .i64 a0_1,.slice A0_2 l0_2.length c0_2],.agg #[.int .i64 a1_0,.int .i64 a1_1,.int .i64 a1_2]] w fun e w'=>e = .returned (.int .i64 r)∧Below w.heap.size w w':=by
 have S:=St.init (w:=w) (dc k42_heap at42 hr0_2 hc0_2 dn)
 clear hr0_2 hc0_2
 have F:=S.fc
 have H:=h;clear h;unfold impl_endNumber.f at H
 replace H:=sp_ H;rcases H with ⟨c3,H⟩ | ⟨c3,H⟩
 · skip
   replace c3:=ceq c3
   obtain rfl:=Option.some.inj H
   go_enter Try.func121,Try.ntmps121
   go_wp2_with (first | ((with_reducible refine gd 2 rfl (L ?_));refine bo 2 (.agg #[_,_,_]) S ?_;clear S F;intro gb444 W S;have F:=S.fc) | ((with_reducible refine gd 3 rfl (L ?_));refine bo 3 (.agg #[_,_,_]) S ?_;clear S F;intro gb445 W S;have F:=S.fc))
   go_ret
   exact ⟨(by first | rfl | (simp [e0_,e1_] <;> rfl) | (simp [*,e0_,e1_] <;> rfl)),S.below⟩
 · skip
   replace c3:=cne c3
   replace H:=sp_ H;rcases H with ⟨c8,H⟩ | ⟨c8,H⟩
   · skip
     replace c8:=ceq c8
     obtain rfl:=Option.some.inj H
     go_enter Try.func121,Try.ntmps121
     go_wp2_with (first | ((with_reducible refine gd 2 rfl (L ?_));refine bo 2 (.agg #[_,_,_]) S ?_;clear S F;intro gb444 W S;have F:=S.fc) | ((with_reducible refine gd 3 rfl (L ?_));refine bo 3 (.agg #[_,_,_]) S ?_;clear S F;intro gb445 W S;have F:=S.fc))
     go_ret
     exact ⟨(by first | rfl | (simp [e0_,e1_] <;> rfl) | (simp [*,e0_,e1_] <;> rfl)),S.below⟩
   · skip
     replace c8:=cne c8
     obtain rfl:=Option.some.inj H
     go_enter Try.func121,Try.ntmps121
     go_wp2_with (first | ((with_reducible refine gd 2 rfl (L ?_));refine bo 2 (.agg #[_,_,_]) S ?_;clear S F;intro gb444 W S;have F:=S.fc) | ((with_reducible refine gd 3 rfl (L ?_));refine bo 3 (.agg #[_,_,_]) S ?_;clear S F;intro gb445 W S;have F:=S.fc))
     go_ret
     exact ⟨(by first | rfl | (simp [e0_,e1_] <;> rfl) | (simp [*,e0_,e1_] <;> rfl)),S.below⟩

/-! ### impl_GoesTo: function 204 -/
mutual
def impl_GoesTo.j0:Nat→Int→Bool→Int→Int→Option (Int × Bool)
 | 0,_,_,_,_=>none
 | k + 1,x1,x21,x447000,x447001=>if x21 = true then (some (0,false)) else (if x447000 = 1 then (some ((-1),true)) else (if x447000 = 2 then (some (1,true)) else (if x447000 = 3 then (impl_GoesTo.j1 k x1 x447000 (x447000 == 3) x447000 x447001) else (impl_GoesTo.j1 k x1 x447000 (x447000 == 6) x447000 x447001))))
def impl_GoesTo.j1:Nat→Int→Int→Bool→Int→Int→Option (Int × Bool)
 | 0,_,_,_,_,_=>none
 | k + 1,x1,x23,x28,x447000,x447001=>if x28 = true then (some (wrap64 ((wrap64 (2 * x447001)) - 1),true)) else (if x23 = 4 then (some (wrap64 (-x1),true)) else (some (0,true)))
end
def impl_GoesTo.f (k:Nat) (a0_0:Int) (a0_1:Int) (a1:Int):Option (Int × Bool):=(impl_IsCell.f a0_0 a0_1).bind fun t447=>(if t447 = true then (if a1 < (-1) then (impl_GoesTo.j0 k a1 true a0_0 a0_1) else (if a1 > 1 then (impl_GoesTo.j0 k a1 true a0_0 a0_1) else (impl_GoesTo.j0 k a1 (a0_0 == 5) a0_0 a0_1))) else (impl_GoesTo.j0 k a1 true a0_0 a0_1))
theorem impl_GoesTo.calls (k:Nat) (a0_0:Int) (a0_1:Int) (a1:Int) (r1:Int) (r2:Bool) (w:World) (h:impl_GoesTo.f k a0_0 a0_1 a1 = some (r1,r2)) :
  Calls Try.prog 204 #[.agg #[.int .i64 a0_0,.int .i64 a0_1],.int .i64 a1] w fun e w'=>e = .returned (.tuple #[.int .i64 r1,.bool r2])∧Below w.heap.size w w':=by
 have HB:=Aside0.mk (Below.refl w.heap.size w);have H:((impl_IsCell.f a0_0 a0_1).bind fun t447=>(if t447 = true then (if a1 < (-1) then (impl_GoesTo.j0 k a1 true a0_0 a0_1) else (if a1 > 1 then (impl_GoesTo.j0 k a1 true a0_0 a0_1) else (impl_GoesTo.j0 k a1 (a0_0 == 5) a0_0 a0_1))) else (impl_GoesTo.j0 k a1 true a0_0 a0_1))) = some (r1,r2):=h;clear h;have HC3:=Aside0.mk H;clear H;go_enter Try.func204,Try.ntmps204;go_upto_region 1 with (first | ((with_reducible refine gate_dst (N:=2) rfl ?_);refine box_event ?hg (N:=2) ?hd (cs:=#[.int .i64 a0_0,.int .i64 a0_1]) (t:=42) ?hr ?_;(case hd=>rfl);(case hg=>rfl);(case hr=>first | (go_simp;done) | (go_simp;rfl));intro gb446 hg w4 hbox hb;refine ev4 (bs HB hb) (hbox) (gle hg HB) (gle hg HB) ?_;clear HB;intro HB BK446 GW446 GE446;clear hb hbox hg))
 (try simp only [Act.put,za_,zb_,zc_])
 go_cut [21] (fun v21 wc=>∃ (kq:Nat) (x21_2:Bool),v21 = .bool x21_2∧Aside0 (impl_GoesTo.j0 kq a1 x21_2 a0_0 a0_1 = some (r1,r2))∧Aside0 (kq ≤ k)∧Aside0 (wc.heap[gb446]? = some (.cells #[.int .i64 a0_0,.int .i64 a0_1] 42 (0,0)))∧Aside0 (Below w.heap.size w wc))
 case first =>
  have H:=HC3.out;clear HC3;replace H:=Option.bind_eq_some_iff.mp H;obtain ⟨t447,A50,H⟩:=H;(try dsimp only at H)
  have A5:=Aside0.mk A50;clear A50;by_cases c6:t447 = true
  ·subst c6;have H1:(if a1 < (-1) then (impl_GoesTo.j0 k a1 true a0_0 a0_1) else (if a1 > 1 then (impl_GoesTo.j0 k a1 true a0_0 a0_1) else (impl_GoesTo.j0 k a1 (a0_0 == 5) a0_0 a0_1))) = some (r1,r2):=by rw [if_pos rfl] at H;exact H
   clear H;have H:=H1;clear H1;by_cases c7:a1 < (-1)
   ·rw [if_pos c7] at H;have c7b0:decide (a1 < (-1)) = true:=decide_eq_true c7;clear c7;(first | rw [c7b0] | (simp only [i64_w,i32_w];rw [c7b0]) | skip)
    have H':=Aside0.mk H;clear H;obtain ⟨hcz8_0,hcz8_1,hfz8_0,hfz8_1⟩:=bt2 BK446;go_wp2_with (first | ((with_reducible refine gate_callee (f:=126) rfl ?_);refine gL_ (some 7) Try.func126 #[.agg #[.int .i64 a0_0,.int .i64 a0_1]] (h:=?_);(with_reducible refine (impl_IsCell.calls a0_0 a0_1 true _ A5.out).mono ?_);rintro e w9 ⟨rfl,hb⟩;refine ⟨_,rfl,?_⟩;refine ev2 (kb BK446 hb) (bs HB hb) ?_;clear BK446 HB;intro BK446 HB;(try clear hb)))
    go_meet
    case rel=>exact ⟨_,(true),(by first | rfl | (simp;done) | (simp [*];done)),H',⟨by first | omega | exact Nat.le_refl _⟩,⟨km_ BK446⟩,⟨bm HB⟩⟩
   ·rw [if_neg c7] at H;have c7b0:decide (a1 < (-1)) = false:=decide_eq_false c7;clear c7;(first | rw [c7b0] | (simp only [i64_w,i32_w];rw [c7b0]) | skip)
    by_cases c10:a1 > 1
    ·rw [if_pos c10] at H;have c10b0:decide (1 < a1) = true:=decide_eq_true c10;clear c10;have H':=Aside0.mk H;clear H;obtain ⟨hcz11_0,hcz11_1,hfz11_0,hfz11_1⟩:=bt2 BK446;go_wp2_with (first | ((with_reducible refine gate_callee (f:=126) rfl ?_);refine gL_ (some 7) Try.func126 #[.agg #[.int .i64 a0_0,.int .i64 a0_1]] (h:=?_);(with_reducible refine (impl_IsCell.calls a0_0 a0_1 true _ A5.out).mono ?_);rintro e w12 ⟨rfl,hb⟩;refine ⟨_,rfl,?_⟩;refine ev2 (kb BK446 hb) (bs HB hb) ?_;clear BK446 HB;intro BK446 HB;(try clear hb)))
     go_meet
     case rel=>exact ⟨_,(true),(by first | rfl | (simp;done) | (simp [*];done)),H',⟨by first | omega | exact Nat.le_refl _⟩,⟨km_ BK446⟩,⟨bm HB⟩⟩
    ·rw [if_neg c10] at H;have c10b0:decide (1 < a1) = false:=decide_eq_false c10;clear c10;have H':=Aside0.mk H;clear H;obtain ⟨hcz13_0,hcz13_1,hfz13_0,hfz13_1⟩:=bt2 BK446;go_wp2_with (first | ((with_reducible refine gate_callee (f:=126) rfl ?_);refine gL_ (some 7) Try.func126 #[.agg #[.int .i64 a0_0,.int .i64 a0_1]] (h:=?_);(with_reducible refine (impl_IsCell.calls a0_0 a0_1 true _ A5.out).mono ?_);rintro e w14 ⟨rfl,hb⟩;refine ⟨_,rfl,?_⟩;refine ev2 (kb BK446 hb) (bs HB hb) ?_;clear BK446 HB;intro BK446 HB;(try clear hb);obtain ⟨hcz15_0,hcz15_1,hfz15_0,hfz15_1⟩:=bt2 BK446))
     go_meet
     case rel=>exact ⟨_,((a0_0 == 5)),(by first | rfl | (simp;done) | (simp [*];done)),H',⟨by first | omega | exact Nat.le_refl _⟩,⟨km_ BK446⟩,⟨bm HB⟩⟩
  ·replace c6:=Bool.eq_false_iff.mpr c6;subst c6;have H1:(impl_GoesTo.j0 k a1 true a0_0 a0_1) = some (r1,r2):=by rw [if_neg (show ¬ (false = true) by decide)] at H;exact H
   clear H;have H:=H1;clear H1;have H':=Aside0.mk H;clear H;obtain ⟨hcz16_0,hcz16_1,hfz16_0,hfz16_1⟩:=bt2 BK446;go_wp2_with (first | ((with_reducible refine gate_callee (f:=126) rfl ?_);refine gL_ (some 7) Try.func126 #[.agg #[.int .i64 a0_0,.int .i64 a0_1]] (h:=?_);(with_reducible refine (impl_IsCell.calls a0_0 a0_1 false _ A5.out).mono ?_);rintro e w17 ⟨rfl,hb⟩;refine ⟨_,rfl,?_⟩;refine ev2 (kb BK446 hb) (bs HB hb) ?_;clear BK446 HB;intro BK446 HB;(try clear hb)))
   go_meet
   case rel=>exact ⟨_,(true),(by first | rfl | (simp;done) | (simp [*];done)),H',⟨by first | omega | exact Nat.le_refl _⟩,⟨km_ BK446⟩,⟨bm HB⟩⟩
 case rest =>
  clear HC3;(try clear c2);obtain ⟨kq,x21_2,rfl,HA,HJ2,BK446,HB⟩:=hcut;cases kq with
  | zero=>exact absurd HA.out (by simp [impl_GoesTo.j0])
  | succ kj2 =>
   have H:=HA.out;clear HA;simp only [impl_GoesTo.j0] at H;by_cases c18:x21_2 = true
   ·subst c18;have H1:(some (0,false)) = some (r1,r2):=by rw [if_pos rfl] at H;exact H
    clear H;have H:=H1;clear H1;simp only [Option.some.injEq,Prod.mk.injEq] at H;obtain ⟨rfl,rfl⟩:=H;go_wp2;go_ret2
    exact ⟨by first | rfl | (simp [e0_,e1_] <;> rfl) | (simp [*,e0_,e1_] <;> rfl),bm HB⟩
   ·replace c18:=Bool.eq_false_iff.mpr c18;subst c18;have H1:(if a0_0 = 1 then (some ((-1),true)) else (if a0_0 = 2 then (some (1,true)) else (if a0_0 = 3 then (impl_GoesTo.j1 kj2 a1 a0_0 (a0_0 == 3) a0_0 a0_1) else (impl_GoesTo.j1 kj2 a1 a0_0 (a0_0 == 6) a0_0 a0_1)))) = some (r1,r2):=by rw [if_neg (show ¬ (false = true) by decide)] at H;exact H
    clear H;have H:=H1;clear H1;by_cases c19:a0_0 = 1
    ·rw [if_pos c19] at H;have c19b0:(a0_0 == 1) = true:=beq_iff_eq.mpr c19;have c19b1:(a0_0 != 1) = false:=bne_eq_false_iff_eq.mpr c19;clear c19;simp only [Option.some.injEq,Prod.mk.injEq] at H;obtain ⟨rfl,rfl⟩:=H;obtain ⟨hcz20_0,hcz20_1,hfz20_0,hfz20_1⟩:=bt2 BK446;go_wp2;go_ret2
     exact ⟨by first | rfl | (simp [e0_,e1_] <;> rfl) | (simp [*,e0_,e1_] <;> rfl),bm HB⟩
    ·rw [if_neg c19] at H;have c19b0:(a0_0 == 1) = false:=beq_eq_false_iff_ne.mpr c19;have c19b1:(a0_0 != 1) = true:=bne_iff_ne.mpr c19;by_cases c21:a0_0 = 2
     ·rw [if_pos c21] at H;have c21b0:(a0_0 == 2) = true:=beq_iff_eq.mpr c21;have c21b1:(a0_0 != 2) = false:=bne_eq_false_iff_eq.mpr c21;clear c21;simp only [Option.some.injEq,Prod.mk.injEq] at H;obtain ⟨rfl,rfl⟩:=H;obtain ⟨hcz22_0,hcz22_1,hfz22_0,hfz22_1⟩:=bt2 BK446;go_wp2;go_ret2
      exact ⟨by first | rfl | (simp [e0_,e1_] <;> rfl) | (simp [*,e0_,e1_] <;> rfl),bm HB⟩
     ·rw [if_neg c21] at H;have c21b0:(a0_0 == 2) = false:=beq_eq_false_iff_ne.mpr c21;have c21b1:(a0_0 != 2) = true:=bne_iff_ne.mpr c21;have HC23:=Aside0.mk H;clear H;obtain ⟨hcz24_0,hcz24_1,hfz24_0,hfz24_1⟩:=bt2 BK446;go_upto_if 28 with (fail)
      go_cut [28] (fun v28 wc=>∃ (kq:Nat) (x28_22:Bool),v28 = .bool x28_22∧Aside0 (impl_GoesTo.j1 kq a1 a0_0 x28_22 a0_0 a0_1 = some (r1,r2))∧Aside0 (kq ≤ kj2)∧Aside0 (wc.heap[gb446]? = some (.cells #[.int .i64 a0_0,.int .i64 a0_1] 42 (0,0)))∧Aside0 (Below w.heap.size w wc))
      case first =>
       have H:=HC23.out;clear HC23;by_cases c25:a0_0 = 3
       ·rw [if_pos c25] at H;have c25b0:(a0_0 == 3) = true:=beq_iff_eq.mpr c25;have c25b1:(a0_0 != 3) = false:=bne_eq_false_iff_eq.mpr c25;clear c25;(first | rw [c25b0] | (simp only [i64_w,i32_w];rw [c25b0]) | skip)
        have H':=Aside0.mk H;clear H;go_wp2;go_meet
        case rel=>exact ⟨_,((a0_0 == 3)),(by first | rfl | (simp;done) | (simp [*];done)),H',⟨by have:=HJ2.out;first | omega | exact Nat.le_refl _⟩,⟨km_ BK446⟩,⟨bm HB⟩⟩
       ·rw [if_neg c25] at H;have c25b0:(a0_0 == 3) = false:=beq_eq_false_iff_ne.mpr c25;have c25b1:(a0_0 != 3) = true:=bne_iff_ne.mpr c25;(first | rw [c25b0] | (simp only [i64_w,i32_w];rw [c25b0]) | skip)
        have H':=Aside0.mk H;clear H;go_wp2;go_meet
        case rel=>exact ⟨_,((a0_0 == 6)),(by first | rfl | (simp;done) | (simp [*];done)),H',⟨by have:=HJ2.out;first | omega | exact Nat.le_refl _⟩,⟨km_ BK446⟩,⟨bm HB⟩⟩
      case rest =>
       clear HC23;(try clear c1);(try clear c2);(try clear c18);(try clear c19);(try clear c19b0);(try clear c19b1);(try clear c20);(try clear c21);(try clear c21b0);(try clear c21b1);(try clear hcz24_0 hcz24_1 hfz24_0 hfz24_1);obtain ⟨kq,x28_22,rfl,HA,HJ22,BK446,HB⟩:=hcut;cases kq with
       | zero=>exact absurd HA.out (by simp [impl_GoesTo.j1])
       | succ kj22 =>
        have H:=HA.out;clear HA;simp only [impl_GoesTo.j1] at H;by_cases c26:x28_22 = true
        ·subst c26;have H1:(some (wrap64 ((wrap64 (2 * a0_1)) - 1),true)) = some (r1,r2):=by rw [if_pos rfl] at H;exact H
         clear H;have H:=H1;clear H1;simp only [Option.some.injEq,Prod.mk.injEq] at H;obtain ⟨rfl,rfl⟩:=H;obtain ⟨hcz27_0,hcz27_1,hfz27_0,hfz27_1⟩:=bt2 BK446;go_wp2;go_ret2
         exact ⟨by first | rfl | (simp [e0_,e1_] <;> rfl) | (simp [*,e0_,e1_] <;> rfl),bm HB⟩
        ·replace c26:=Bool.eq_false_iff.mpr c26;subst c26;have H1:(if a0_0 = 4 then (some (wrap64 (-a1),true)) else (some (0,true))) = some (r1,r2):=by rw [if_neg (show ¬ (false = true) by decide)] at H;exact H
         clear H;have H:=H1;clear H1;by_cases c28:a0_0 = 4
         ·rw [if_pos c28] at H;have c28b0:(a0_0 == 4) = true:=beq_iff_eq.mpr c28;have c28b1:(a0_0 != 4) = false:=bne_eq_false_iff_eq.mpr c28;clear c28;simp only [Option.some.injEq,Prod.mk.injEq] at H;obtain ⟨rfl,rfl⟩:=H;go_wp2;go_ret2
          exact ⟨by first | rfl | (simp [e0_,e1_] <;> rfl) | (simp [*,e0_,e1_] <;> rfl),bm HB⟩
         ·rw [if_neg c28] at H;have c28b0:(a0_0 == 4) = false:=beq_eq_false_iff_ne.mpr c28;have c28b1:(a0_0 != 4) = true:=bne_iff_ne.mpr c28;simp only [Option.some.injEq,Prod.mk.injEq] at H;obtain ⟨rfl,rfl⟩:=H;go_wp2;go_ret2
          exact ⟨by first | rfl | (simp [e0_,e1_] <;> rfl) | (simp [*,e0_,e1_] <;> rfl),bm HB⟩

/-! ### impl_turnGroup: function 205 -/
def impl_turnGroup.l0:Nat→List Int→Int→Int→Int→Int→Int→List (S42)→Option ((List (S42)))
  | 0,_,_,_,_,_,_,_=>none
  | k + 1,x1,x2,x9,x10,x449000,x449001,x449002=>if x10 < x9 then (if 0 ≤ x10 then (if x10 < (x449002.length:Int) then (if ((rd_T42 x449002 x10).f0) = 6 then (if x10 < (x1.length:Int) then (if 0 ≤ x2 then (if x2 < (x1.length:Int) then (if (rd x1 x10) = (rd x1 x2) then (impl_turnGroup.l0 k x1 x2 x9 (wrap64 (x10 + 1)) x449000 x449001 (x449002.set (x10:Int).toNat (⟨(rd_T42 x449002 x10).f0,wrap64 (1 - ((rd_T42 x449002 x10).f1))⟩:S42))) else (impl_turnGroup.l0 k x1 x2 x9 (wrap64 (x10 + 1)) x449000 x449001 x449002)) else (none)) else (none)) else (none)) else (impl_turnGroup.l0 k x1 x2 x9 (wrap64 (x10 + 1)) x449000 x449001 x449002)) else (none)) else (none)) else (some x449002)
def impl_turnGroup.f (k:Nat) (a0_0:Int) (a0_1:Int) (l0_2:List (S42)) (l1:List Int) (a2:Int):Option ((List (S42))):=impl_turnGroup.l0 k l1 a2 (l0_2.length:Int) 0 a0_0 a0_1 l0_2
theorem impl_turnGroup.calls (k:Nat) (a0_0:Int) (a0_1:Int) (P0_2_:Nat→Prop) (u9000_:Value) (l0_2:List (S42)) (A1:Option Addr) (c1:Nat) (l1:List Int) (a2:Int) (r:List (S42)) (w0 w:World) (hB:Below w0.heap.size w0 w) (ho0_2:Kd.R k42 42 w w0.heap.size P0_2_ u9000_ l0_2) (hr1:∀ W_,Kept w W_ (fun k_=>P0_2_ k_)→Kd.C (Kd.int .i64) W_ A1 l1.length l1) (hc1:l1.length ≤ c1) (h:impl_turnGroup.f k a0_0 a0_1 l0_2 l1 a2 = some r) :
    Calls Try.prog 205 #[.agg #[.int .i64 a0_0,.int .i64 a0_1,u9000_],.slice A1 l1.length c1,.int .i64 a2] w fun e w'=>e = .returned (.tuple #[])∧Kd.R k42 42 w' w0.heap.size (fun k_=>(P0_2_ k_∨w.heap.size ≤ k_)) u9000_ r∧Below w0.heap.size w0 w'∧Kept w w' (fun k_=>P0_2_ k_):=by
 obtain ⟨Al0_2,cl0_2,rfl⟩:=Kd.R_slice ho0_2
 have S:=St.own1 at42 hB ho0_2 (dk (atI .i64) hr1 hc1 dn)
 clear hB ho0_2 hr1 hc1
 have F:=S.fc
 have H:=h;clear h;unfold impl_turnGroup.f at H
 go_enter Try.func205,Try.ntmps205
 go_wp2_with (first | ((with_reducible refine gd 3 rfl (L ?_));refine bo 3 (.agg #[_,_,_]) S ?_;clear S F;intro gb448 W S;have F:=S.fc) | ((with_reducible refine gs (t:=3) rfl (L ?_));(first | refine sb (.int _ _) S sz3 ?_ | refine ro (.int _ _) S sz3 ?_ (ho:=rfl) (hx:=rfl) (hy:=rfl));clear S F;intro W S;(try simp only [gd42] at S);have F:=S.fc))
 go_loopg [10] k (fun kq v10 w'=>∃ (x10_1:Int) (x449002_1:List (S42)),v10 = .int .i64 x10_1∧impl_turnGroup.l0 kq l1 a2 (l0_2.length:Int) x10_1 a0_0 a0_1 x449002_1 = some r∧kq ≤ k∧St w0 w P0_2_ [bor (atI .i64) A1 c1 l1] w'  [box gb448 30 [.int .i64 a0_0,.int .i64 a0_1,.slice Al0_2 l0_2.length cl0_2],row at42 42 Al0_2 l0_2.length cl0_2 x449002_1])
 case atStart=>exact ⟨0,l0_2,(by first | rfl | (simp;done) | (simp [*];done) | (rw [w6_ (by omega) (by omega)])),(by first | exact H | (simp only [F];exact H)),Nat.le_refl _,S⟩
 case round =>
  clear H S F
  obtain ⟨x10_1,x449002_1,rfl,HA,HK1,S⟩:=hrel
  have F:=S.fc
  cases gk with
  | zero=>exact absurd HA (by simp [impl_turnGroup.l0])
  | succ k1 =>
   have H:=HA;clear HA;simp only [impl_turnGroup.l0,F] at H
   replace H:=sp_ H;rcases H with ⟨c7,H⟩ | ⟨c7,H⟩
   · skip
     replace H:=np_ H;obtain ⟨c8,H⟩:=H;(try simp only [F] at c8)
     replace H:=np_ H;obtain ⟨c9,H⟩:=H;(try simp only [F] at c9)
     replace H:=sp_ H;rcases H with ⟨c10,H⟩ | ⟨c10,H⟩
     · skip
       replace c10:=ceq c10
       replace H:=np_ H;obtain ⟨c11,H⟩:=H;(try simp only [F] at c11)
       replace H:=np_ H;obtain ⟨c12,H⟩:=H;(try simp only [F] at c12)
       replace H:=np_ H;obtain ⟨c13,H⟩:=H;(try simp only [F] at c13)
       replace H:=sp_ H;rcases H with ⟨c14,H⟩ | ⟨c14,H⟩
       · skip
         replace c14:=ceq c14
         (first | (with_reducible replace H:=ob_ H;obtain ⟨y453,hy453,H⟩:=H;(try dsimp only at H)) | (obtain ⟨y453,hy453⟩:∃ y_:List (S42),y_ = (x449002_1.set (x10_1:Int).toNat (⟨(rd_T42 x449002_1 x10_1).f0,wrap64 (1 - ((rd_T42 x449002_1 x10_1).f1))⟩:S42)):=⟨_,rfl⟩;(try rw [← hy453] at H);(try simp only [Option.bind_some] at H)));have Ny453:=Aside0.mk hy453;clear hy453
         go_wp2_with (first | ((with_reducible refine gs (t:=3) rfl (L ?_));(first | refine sb (.int _ _) S sz3 ?_ | refine ro (.int _ _) S sz3 ?_ (ho:=rfl) (hx:=rfl) (hy:=rfl));clear S F;intro W S;(try simp only [gd42] at S);(try rw [← Ny453.out] at S);have F:=S.fc))
         refine rq S [(0,0),(0,2),(1,1),(0,3),(0,4),(1,5),(0,6),(0,7),(0,8),(0,9),(0,10),(0,12),(0,13),(0,14),(1,11),(1,15),(0,16),(0,17)] [] (h:=?_);clear S F;intro W S;have S0:=S;have F:=S.fc
         repeat (first | (refine q0 (h:=?_)) | (refine q1 S0 (h:=?_)) | (refine q0n (h:=?_)) | (refine q1n S0 (h:=?_)))
         refine oz ?_
         try clear S0
         go_wp2_with (first | ((with_reducible refine gs (t:=3) rfl (L ?_));(first | refine sb (.int _ _) S sz3 ?_ | refine ro (.int _ _) S sz3 ?_ (ho:=rfl) (hx:=rfl) (hy:=rfl));clear S F;intro W S;(try simp only [gd42] at S);(try rw [← Ny453.out] at S);have F:=S.fc))
         refine rq S [(0,0),(0,2),(0,3),(0,5),(1,1),(1,4),(0,6),(0,7),(1,8),(0,9),(0,10),(0,11),(3,12)] [12] (h:=?_);clear S F;intro W S;have S0:=S;have F:=S.fc
         repeat (first | (refine q0 (h:=?_)) | (refine q1 S0 (h:=?_)) | (refine q0n (h:=?_)) | (refine q1n S0 (h:=?_)))
         refine lk3 (by rfl) (by exact (Eq.refl true)) ?_;(first | refine sb (.int _ _) S sz3 ?_ | refine ro (.int _ _) S sz3 ?_ (ho:=rfl) (hx:=rfl) (hy:=rfl));clear S F;intro W S;(try simp only [gd42] at S);(try rw [← Ny453.out] at S);have F:=S.fc
         refine oz ?_
         try clear S0
         go_wp2_with (first | ((with_reducible refine gs (t:=3) rfl (L ?_));(first | refine sb (.int _ _) S sz3 ?_ | refine ro (.int _ _) S sz3 ?_ (ho:=rfl) (hx:=rfl) (hy:=rfl));clear S F;intro W S;(try simp only [gd42] at S);(try rw [← Ny453.out] at S);have F:=S.fc))
         go_roundg k1
         case measure=>omega
         case rel=>exact ⟨(wrap64 (x10_1 + 1)),y453,(by first | rfl | (simp;done) | (simp [*];done) | (rw [w6_ (by omega) (by omega)])),(by first | exact H | (simp only [F];exact H)),(by first | omega | exact Nat.le_refl _),S⟩
       · skip
         replace c14:=cne c14
         go_wp2_with (first | ((with_reducible refine gs (t:=3) rfl (L ?_));(first | refine sb (.int _ _) S sz3 ?_ | refine ro (.int _ _) S sz3 ?_ (ho:=rfl) (hx:=rfl) (hy:=rfl));clear S F;intro W S;(try simp only [gd42] at S);have F:=S.fc))
         refine rq S [(0,0),(0,2),(1,1),(0,3),(0,4),(1,5),(0,6),(0,7),(0,8),(0,9),(0,10),(0,12),(0,13),(0,14),(1,11),(1,15),(0,16),(0,17)] [] (h:=?_);clear S F;intro W S;have S0:=S;have F:=S.fc
         repeat (first | (refine q0 (h:=?_)) | (refine q1 S0 (h:=?_)) | (refine q0n (h:=?_)) | (refine q1n S0 (h:=?_)))
         refine oz ?_
         try clear S0
         go_wp2_with (first | ((with_reducible refine gs (t:=3) rfl (L ?_));(first | refine sb (.int _ _) S sz3 ?_ | refine ro (.int _ _) S sz3 ?_ (ho:=rfl) (hx:=rfl) (hy:=rfl));clear S F;intro W S;(try simp only [gd42] at S);have F:=S.fc))
         go_roundg k1
         case measure=>omega
         case rel=>exact ⟨(wrap64 (x10_1 + 1)),x449002_1,(by first | rfl | (simp;done) | (simp [*];done) | (rw [w6_ (by omega) (by omega)])),(by first | exact H | (simp only [F];exact H)),(by first | omega | exact Nat.le_refl _),S⟩
     · skip
       replace c10:=cne c10
       go_wp2_with (first | ((with_reducible refine gs (t:=3) rfl (L ?_));(first | refine sb (.int _ _) S sz3 ?_ | refine ro (.int _ _) S sz3 ?_ (ho:=rfl) (hx:=rfl) (hy:=rfl));clear S F;intro W S;(try simp only [gd42] at S);have F:=S.fc))
       refine rq S [(0,0),(0,2),(1,1),(0,3),(0,4),(1,5),(0,6),(0,7),(0,8),(0,9),(0,10),(0,11),(0,12),(0,13),(0,14),(0,15),(0,16),(0,17)] [] (h:=?_);clear S F;intro W S;have S0:=S;have F:=S.fc
       repeat (first | (refine q0 (h:=?_)) | (refine q1 S0 (h:=?_)) | (refine q0n (h:=?_)) | (refine q1n S0 (h:=?_)))
       refine oz ?_
       try clear S0
       go_wp2_with (first | ((with_reducible refine gs (t:=3) rfl (L ?_));(first | refine sb (.int _ _) S sz3 ?_ | refine ro (.int _ _) S sz3 ?_ (ho:=rfl) (hx:=rfl) (hy:=rfl));clear S F;intro W S;(try simp only [gd42] at S);have F:=S.fc))
       go_roundg k1
       case measure=>omega
       case rel=>exact ⟨(wrap64 (x10_1 + 1)),x449002_1,(by first | rfl | (simp;done) | (simp [*];done) | (rw [w6_ (by omega) (by omega)])),(by first | exact H | (simp only [F];exact H)),(by first | omega | exact Nat.le_refl _),S⟩
   · skip
     obtain rfl:=Option.some.inj H
     go_wp2_with (first | ((with_reducible refine gs (t:=3) rfl (L ?_));(first | refine sb (.int _ _) S sz3 ?_ | refine ro (.int _ _) S sz3 ?_ (ho:=rfl) (hx:=rfl) (hy:=rfl));clear S F;intro W S;(try simp only [gd42] at S);have F:=S.fc))
     first | go_end0 | ((try simp only [Exit.inBlock,Exit.then]);refine bodyPost_ret (results_none rfl _ _ _) rfl ?_)
     exact ⟨(by first | rfl | (simp [e0_,e1_] <;> rfl) | (simp [*,e0_,e1_] <;> rfl)),(by first | exact S.rp | exact Kd.R_nil _ _ _ _ _),S.below,S.kept⟩

/-! ### impl_drop: function 162 -/
mutual
def impl_drop.l0:Nat→List Int→Int→List Int→Int→Int→Int→Int→List (S42)→Option (Int × Int × Int × List Int × (List (S42)))
 | 0,_,_,_,_,_,_,_,_=>none
 | k + 1,x1,x2,x8,x9,x10,x455000,x455001,x455002=>if x10 < x455000 then (if x8.length < 17592186044416 then ((some (x8 ++ [wrap64 ((wrap64 (x10 * x455001)) + x2)]:List Int)).bind fun y459=>(if 0 ≤ (wrap64 ((wrap64 (x10 * x455001)) + x2)) then (if (wrap64 ((wrap64 (x10 * x455001)) + x2)) < (x455002.length:Int) then ((impl_GoesTo.f k ((rd_T42 x455002 (wrap64 ((wrap64 (x10 * x455001)) + x2))).f0) ((rd_T42 x455002 (wrap64 ((wrap64 (x10 * x455001)) + x2))).f1) x9).bind fun bt464=>(if bt464.2 = true then (if ((rd_T42 x455002 (wrap64 ((wrap64 (x10 * x455001)) + x2))).f0) = 3 then (impl_drop.j1 k x1 x2 y459 x10 (wrap64 ((wrap64 (x10 * x455001)) + x2)) bt464.1 x455000 x455001 (x455002.set ((wrap64 ((wrap64 (x10 * x455001)) + x2)):Int).toNat (⟨(rd_T42 x455002 (wrap64 ((wrap64 (x10 * x455001)) + x2))).f0,wrap64 (1 - ((rd_T42 x455002 (wrap64 ((wrap64 (x10 * x455001)) + x2))).f1))⟩:S42)) ((rd_T42 x455002 (wrap64 ((wrap64 (x10 * x455001)) + x2))).f0) ((rd_T42 x455002 (wrap64 ((wrap64 (x10 * x455001)) + x2))).f1)) else (impl_drop.j1 k x1 x2 y459 x10 (wrap64 ((wrap64 (x10 * x455001)) + x2)) bt464.1 x455000 x455001 x455002 ((rd_T42 x455002 (wrap64 ((wrap64 (x10 * x455001)) + x2))).f0) ((rd_T42 x455002 (wrap64 ((wrap64 (x10 * x455001)) + x2))).f1))) else (some (2,x10,x2,y459,x455002)))) else (none)) else (none))) else (none)) else (some (1,x455000,x2,x8,x455002))
def impl_drop.j1:Nat→List Int→Int→List Int→Int→Int→Int→Int→Int→List (S42)→Int→Int→Option (Int × Int × Int × List Int × (List (S42)))
 | 0,_,_,_,_,_,_,_,_,_,_,_=>none
 | k + 1,x1,x2,x8,x10,x11,x13,x455000,x455001,x455002,x464000,x464001=>if x464000 = 6 then ((impl_turnGroup.f k x455000 x455001 x455002 x1 x11).bind fun t467=>(if (wrap64 (x2 + x13)) < 0 then (some (3,x10,wrap64 (x2 + x13),x8,t467)) else (if (wrap64 (x2 + x13)) ≥ x455001 then (some (3,x10,wrap64 (x2 + x13),x8,t467)) else (impl_drop.l0 k x1 (wrap64 (x2 + x13)) x8 (wrap64 (-x13)) (wrap64 (x10 + 1)) x455000 x455001 t467)))) else (if (wrap64 (x2 + x13)) < 0 then (some (3,x10,wrap64 (x2 + x13),x8,x455002)) else (if (wrap64 (x2 + x13)) ≥ x455001 then (some (3,x10,wrap64 (x2 + x13),x8,x455002)) else (impl_drop.l0 k x1 (wrap64 (x2 + x13)) x8 (wrap64 (-x13)) (wrap64 (x10 + 1)) x455000 x455001 x455002)))
end
def impl_drop.f (k:Nat) (a0_0:Int) (a0_1:Int) (l0_2:List (S42)) (l1:List Int) (a2:Int):Option (Int × Int × Int × List Int × (List (S42))):=impl_drop.l0 k l1 a2 (([]:List Int)) 0 0 a0_0 a0_1 l0_2
theorem impl_drop.calls (k:Nat) (a0_0:Int) (a0_1:Int) (P0_2_:Nat→Prop) (u9000_:Value) (l0_2:List (S42)) (A1:Option Addr) (c1:Nat) (l1:List Int) (a2:Int) (r1:Int) (r2:Int) (r3:Int) (r4:List Int) (r5:List (S42)) (w0 w:World) (hB:Below w0.heap.size w0 w) (ho0_2:Kd.R k42 42 w w0.heap.size P0_2_ u9000_ l0_2) (hr1:∀ W_,Kept w W_ (fun k_=>P0_2_ k_)→Kd.C (Kd.int .i64) W_ A1 l1.length l1) (hc1:l1.length ≤ c1) (h:impl_drop.f k a0_0 a0_1 l0_2 l1 a2 = some (r1,r2,r3,r4,r5)) :
  Calls Try.prog 162 #[.agg #[.int .i64 a0_0,.int .i64 a0_1,u9000_],.slice A1 l1.length c1,.int .i64 a2] w fun e w'=>∃ v3_:Value,e = .returned (.tuple #[.agg #[.int .i64 r1,.int .i64 r2,.int .i64 r3],v3_])∧Kd.R (Kd.int .i64) 3 w' w0.heap.size (fun k_=>(P0_2_ k_∨w.heap.size ≤ k_)) v3_ r4∧Kd.R k42 42 w' w0.heap.size (fun k_=>(P0_2_ k_∨w.heap.size ≤ k_)) u9000_ r5∧Below w0.heap.size w0 w'∧Kept w w' (fun k_=>P0_2_ k_):=by
 have HO0_2:=Aside0.mk (show Kd.R k42 42 w w0.heap.size (fun k_=>(P0_2_ k_∨w.heap.size ≤ k_)) u9000_ l0_2 from Kd.R_mono ho0_2 (fun k_ hk=>(.inl hk)));have HR1:=Aside0.mk hr1;have HC1:=Aside0.mk hc1;clear hr1 hc1;have HK:=Aside0.mk (Kept.refl w (fun k_=>P0_2_ k_));have HW0:=Aside0.mk hB.size;have HB:=Aside0.mk hB;clear hB;have H:(impl_drop.l0 k l1 a2 (([]:List Int)) 0 0 a0_0 a0_1 l0_2) = some (r1,r2,r3,r4,r5):=h;clear h;obtain ⟨y456,hy456⟩:∃ y_:List Int,y_ = (([]:List Int)):=⟨_,rfl⟩
 replace H:(impl_drop.l0 k l1 a2 y456 0 0 a0_0 a0_1 l0_2) = some (r1,r2,r3,r4,r5):=by first | (rw [hy456];with_reducible exact H) | (have H2_:=(Option.bind_some _ _).symm.trans H;rw [hy456];with_reducible exact H2_) | (have H2_:=(Option.bind_some _ _).symm.trans H;with_reducible exact H2_) | with_reducible exact H | (rw [hy456];exact H) | exact H
 have Ny456:=Aside0.mk hy456;clear hy456;have H':=Aside0.mk H;clear H;obtain ⟨Ao4,co4,eo4⟩:=Kd.R_slice HO0_2.out;subst eo4;go_enter Try.func162,Try.ntmps162;go_wp2_with (first | ((with_reducible refine gate_dst (N:=3) rfl ?_);refine box_event ?hg (N:=3) ?hd (cs:=#[.int .i64 a0_0,.int .i64 a0_1,.slice Ao4 l0_2.length co4]) (t:=30) ?hr ?_;(case hd=>rfl);(case hg=>rfl);(case hr=>first | (go_simp;done) | (go_simp;rfl));intro gb454 hg w5 hbox hb;refine ev6 (Kd.R_below (Kd.R_mv HO0_2.out) hb) (Kept.below (S:=(fun k_=>P0_2_ k_)) (km HK) hb) (bs HB hb) (hbox) ((by rw [hg];exact (by first | exact HK.out.1 | exact (show Kept w _ (fun k_=>P0_2_ k_) from km HK).1):w.heap.size ≤ gb454)) (gle hg HB) ?_;clear HO0_2 HK HB;intro HO0_2 HK HB BK454 GW454 GE454;clear hb hbox hg) | ((with_reducible refine gate_dst (N:=6) rfl ?_);refine box_event ?hg (N:=6) ?hd (cs:=#[.int .i64 0,.int .i64 0,.int .i64 0]) (t:=80) ?hr ?_;(case hd=>rfl);(case hg=>rfl);(case hr=>first | (go_simp;done) | (go_simp;rfl));intro gb455 hg w6 hbox hb;refine ev9 (Kd.R_below (Kd.R_mv HO0_2.out) hb) (kb BK454 hb) (Kept.below (S:=(fun k_=>P0_2_ k_)) (km HK) hb) (bs HB hb) (hbox) ((by rw [hg];exact (by first | exact HK.out.1 | exact (show Kept w _ (fun k_=>P0_2_ k_) from km HK).1):w.heap.size ≤ gb455)) (gle hg HB) (gnf hg BK454) (gne hg BK454) ?_;clear HO0_2 BK454 HK HB;intro HO0_2 BK454 HK HB BK455 GW455 GE455 NB454_455 NB455_454;clear hb hbox hg) | ((with_reducible refine gate_dst (N:=15) rfl ?_);refine Kd.R_lit (Kd.int .i64) _ 3 ?hg (N:=15) ?hd (xs:=([]:List Int)) (inner:=[]) (ok:=fun _=>True) (okp:=fun _=>True) ?hr ?hp (fun _ hk=>hk) trivial (Below.refl _ _) (Nat.le_refl _) (by simp) ?_;(case hd=>rfl);(case hg=>rfl);(case hr=>first | (go_simp;done) | (go_simp;rfl));(case hp=>exact (Reps.none _ _));intro v457 w7 ho8 hb hg_ hnew_;clear hg_ hnew_;(first | rw [← Ny456.out] at ho8 | (simp only [Int.reduceToNat] at ho8;rw [← Ny456.out] at ho8));refine ev6 (Kd.R_below (Kd.R_mv HO0_2.out) hb) (Kd.R_lower (Kd.R_newM (M:=fun k_=>(P0_2_ k_∨w.heap.size ≤ k_)) ho8 (by first | exact HK.out.1 | exact (show Kept w _ (fun k_=>P0_2_ k_) from km HK).1) (fun k_ h_=>.inr h_)) (below_size (bm HB))) (kb BK454 hb) (kb BK455 hb) (Kept.below (S:=(fun k_=>P0_2_ k_)) (km HK) hb) (bs HB hb) ?_;clear HO0_2 BK454 BK455 HK HB;intro HO0_2 HO458 BK454 BK455 HK HB;clear hb ho8))
 go_loopg [2,8,9,10] k (fun kq v2 v8 v9 v10 w'=>∃ (x2_1:Int) (x8_1:List Int) (x9_1:Int) (x10_1:Int) (x455002_1:List (S42)) (x456000_1:Int) (x456001_1:Int) (x456002_1:Int),v2 = .int .i64 x2_1∧v9 = .int .i64 x9_1∧v10 = .int .i64 x10_1∧Aside0 (impl_drop.l0 kq l1 x2_1 x8_1 x9_1 x10_1 a0_0 a0_1 x455002_1 = some (r1,r2,r3,r4,r5))∧Aside0 (kq ≤ k)∧Aside0 (Kd.R (Kd.int .i64) 3 w' w0.heap.size (fun k_=>(P0_2_ k_∨w.heap.size ≤ k_)) v8 x8_1)∧Aside0 (Kd.R k42 42 w' w0.heap.size (fun k_=>(P0_2_ k_∨w.heap.size ≤ k_)) (.slice Ao4 l0_2.length co4) x455002_1)∧Aside0 (w'.heap[gb454]? = some (.cells #[.int .i64 a0_0,.int .i64 a0_1,(.slice Ao4 l0_2.length co4)] 30 (0,0)))∧Aside0 (w'.heap[gb455]? = some (.cells #[.int .i64 x456000_1,.int .i64 x456001_1,.int .i64 x456002_1] 80 (0,0)))∧Aside0 (Kept w w' (fun k_=>P0_2_ k_))∧Aside0 (Below w0.heap.size w0 w'))
 case atStart=>exact ⟨(a2),(y456),(0),(0),(l0_2),(0),(0),(0),(by first | rfl | (simp;done) | (simp [*];done)),(by first | rfl | (simp;done) | (simp [*];done)),(by first | rfl | (simp;done) | (simp [*];done)),H',⟨Nat.le_refl _⟩,⟨Kd.R_mv (Kd.R_mono (ok':=fun k_=>((P0_2_ k_∨w.heap.size ≤ k_))) HO458.out (fun _ hk=>hk.1))⟩,⟨Kd.R_mv HO0_2.out⟩,⟨km_ BK454⟩,⟨km_ BK455⟩,⟨km HK⟩,⟨bm HB⟩⟩
 case round =>
  clear H';(try clear c1);(try clear p2);obtain ⟨x2_1,x8_1,x9_1,x10_1,x455002_1,x456000_1,x456001_1,x456002_1,rfl,rfl,rfl,HA,HK1,HO_8,HO_455002,BK454,BK455,HK,HB⟩:=hrel;have hl455002_1:=(Kd.R_reads' HO_455002.out).1;rw [hl455002_1] at HO_455002;(try simp only [hl455002_1])
  (try simp only [hl455002_1] at BK454)
  (try simp only [hl455002_1] at BK455)
  (try simp only [hl455002_1] at HO_8)
  cases gk with
  | zero=>exact absurd HA.out (by simp [impl_drop.l0])
  | succ k1 =>
   have H:=HA.out;clear HA;simp only [impl_drop.l0] at H;by_cases c9:x10_1 < a0_0
   ·rw [if_pos c9] at H;have c9b0:decide (x10_1 < a0_0) = true:=decide_eq_true c9;clear c9;replace H:=np_ H;obtain ⟨c10,H⟩:=H;have LMc10:=Aside0.mk c10;clear c10;obtain ⟨y459,hy459⟩:∃ y_:List Int,y_ = (x8_1 ++ [wrap64 ((wrap64 (x10_1 * a0_1)) + x2_1)]):=⟨_,rfl⟩
    replace H:(if 0 ≤ (wrap64 ((wrap64 (x10_1 * a0_1)) + x2_1)) then (if (wrap64 ((wrap64 (x10_1 * a0_1)) + x2_1)) < (x455002_1.length:Int) then ((impl_GoesTo.f k1 ((rd_T42 x455002_1 (wrap64 ((wrap64 (x10_1 * a0_1)) + x2_1))).f0) ((rd_T42 x455002_1 (wrap64 ((wrap64 (x10_1 * a0_1)) + x2_1))).f1) x9_1).bind fun bt464=>(if bt464.2 = true then (if ((rd_T42 x455002_1 (wrap64 ((wrap64 (x10_1 * a0_1)) + x2_1))).f0) = 3 then (impl_drop.j1 k1 l1 x2_1 y459 x10_1 (wrap64 ((wrap64 (x10_1 * a0_1)) + x2_1)) bt464.1 a0_0 a0_1 (x455002_1.set ((wrap64 ((wrap64 (x10_1 * a0_1)) + x2_1)):Int).toNat (⟨(rd_T42 x455002_1 (wrap64 ((wrap64 (x10_1 * a0_1)) + x2_1))).f0,wrap64 (1 - ((rd_T42 x455002_1 (wrap64 ((wrap64 (x10_1 * a0_1)) + x2_1))).f1))⟩:S42)) ((rd_T42 x455002_1 (wrap64 ((wrap64 (x10_1 * a0_1)) + x2_1))).f0) ((rd_T42 x455002_1 (wrap64 ((wrap64 (x10_1 * a0_1)) + x2_1))).f1)) else (impl_drop.j1 k1 l1 x2_1 y459 x10_1 (wrap64 ((wrap64 (x10_1 * a0_1)) + x2_1)) bt464.1 a0_0 a0_1 x455002_1 ((rd_T42 x455002_1 (wrap64 ((wrap64 (x10_1 * a0_1)) + x2_1))).f0) ((rd_T42 x455002_1 (wrap64 ((wrap64 (x10_1 * a0_1)) + x2_1))).f1))) else (some (2,x10_1,x2_1,y459,x455002_1)))) else (none)) else (none)) = some (r1,r2,r3,r4,r5):=by first | (rw [hy459];with_reducible exact H) | (have H2_:=(Option.bind_some _ _).symm.trans H;rw [hy459];with_reducible exact H2_) | (have H2_:=(Option.bind_some _ _).symm.trans H;with_reducible exact H2_) | with_reducible exact H | (rw [hy459];exact H) | exact H
    have Ny459:=Aside0.mk hy459;clear hy459;obtain ⟨ji11,hji11⟩:∃ j_:Int,(wrap64 ((wrap64 (x10_1 * a0_1)) + x2_1)) = j_:=⟨_,rfl⟩
    replace H:(if 0 ≤ (ji11) then (if (ji11) < (x455002_1.length:Int) then ((impl_GoesTo.f k1 ((rd_T42 x455002_1 (ji11)).f0) ((rd_T42 x455002_1 (ji11)).f1) x9_1).bind fun bt464=>(if bt464.2 = true then (if ((rd_T42 x455002_1 (ji11)).f0) = 3 then (impl_drop.j1 k1 l1 x2_1 y459 x10_1 ji11 bt464.1 a0_0 a0_1 (x455002_1.set ((ji11):Int).toNat (⟨(rd_T42 x455002_1 (ji11)).f0,wrap64 (1 - ((rd_T42 x455002_1 (ji11)).f1))⟩:S42)) ((rd_T42 x455002_1 (ji11)).f0) ((rd_T42 x455002_1 (ji11)).f1)) else (impl_drop.j1 k1 l1 x2_1 y459 x10_1 ji11 bt464.1 a0_0 a0_1 x455002_1 ((rd_T42 x455002_1 (ji11)).f0) ((rd_T42 x455002_1 (ji11)).f1))) else (some (2,x10_1,x2_1,y459,x455002_1)))) else (none)) else (none)) = some (r1,r2,r3,r4,r5):=by first | (rw [hji11] at H;exact H) | (simp only [hji11] at H ⊢;exact H)
    (try rw [hji11] at Ny459)
    have hji11w:(IntKind.i64.wrap ((wrap64 (x10_1 * a0_1)) + x2_1)) = ji11:=(i64_w _).trans hji11;replace H:=np_ H;obtain ⟨c12,H⟩:=H;have c12b0:decide (0 ≤ (ji11)) = true:=decide_eq_true c12;clear c12;replace H:=np_ H;obtain ⟨c13,H⟩:=H;have c13b0:decide ((ji11) < (x455002_1.length:Int)) = true:=decide_eq_true c13;(try simp only [hl455002_1] at c13b0)
    clear c13;replace H:=Option.bind_eq_some_iff.mp H;obtain ⟨⟨t464,t465⟩,A140,H⟩:=H;(try dsimp only at H)
    have A14:=Aside0.mk A140;clear A140;by_cases c15:t465 = true
    ·subst c15;have H1:(if ((rd_T42 x455002_1 (ji11)).f0) = 3 then (impl_drop.j1 k1 l1 x2_1 y459 x10_1 ji11 t464 a0_0 a0_1 (x455002_1.set ((ji11):Int).toNat (⟨(rd_T42 x455002_1 (ji11)).f0,wrap64 (1 - ((rd_T42 x455002_1 (ji11)).f1))⟩:S42)) ((rd_T42 x455002_1 (ji11)).f0) ((rd_T42 x455002_1 (ji11)).f1)) else (impl_drop.j1 k1 l1 x2_1 y459 x10_1 ji11 t464 a0_0 a0_1 x455002_1 ((rd_T42 x455002_1 (ji11)).f0) ((rd_T42 x455002_1 (ji11)).f1))) = some (r1,r2,r3,r4,r5):=by rw [if_pos rfl] at H;exact H
     clear H;have H:=H1;clear H1;have HC16:=Aside0.mk H;clear H;have hnb17:=NB454_455.out;have hnc17:=NB455_454.out;obtain ⟨hcz18_0,hcz18_1,hcz18_2,hfz18_0,hfz18_1,hfz18_2⟩:=bt3 BK454;go_upto_if 51 with (first | ((with_reducible refine gate_builtin (b:=.append) (xs:=#[.tmp 28,.tmp 30]) rfl ?_);at_builtin;refine Kd.R_append (Kd.int .i64) (w0:=w0) w0.heap.size rfl (.tmp 28) (.tmp 30) 25 3 (.int .i64 0) 8 rfl Try.underlying25 info3 rfl (by decide) (by omega) u8 x8_1 ji11 [.int .i64 ji11] (fun k_=>(P0_2_ k_∨w.heap.size ≤ k_)) (fun _=>False) rfl rfl ?aP (fun _ hk=>hk.elim) ?aF ?aO ?aB ?aS ?aL ?_;(case aP=>exact rfl);(case aB=>exact (bm HB));(case aF=>exact (fun k_ hk=>(.inr (Nat.le_trans (by first | exact HK.out.1 | exact (show Kept w _ (fun k_=>P0_2_ k_) from km HK).1) hk))));(case aO=>exact (Kd.R_mv HO_8.out));(case aS=>exact (below_size (bm HB)));(case aL=>have:=LMc10.out;omega);intro v460 w19 ho hb hg hat;rw [← Ny459.out] at ho;refine ev6 (Kd.R_over' (Kd.R_mv HO_455002.out) (Kd.R_typed (Kd.R_mv HO_8.out)) (by decide) hg) (blk_grown (km_ BK454) hg (Kd.R_ne HO_8.out BK454.out (by decide))) (blk_grown (km_ BK455) hg (Kd.R_ne HO_8.out BK455.out (by decide))) (hb) (Kept.of_grown (S:=(fun k_=>P0_2_ k_)) hg (km HK) (fun k_ e_=>(HO_8.out.1 k_ e_))) (ho) ?_;clear HO_455002 BK454 BK455 HB HK HO_8;intro HO_455002 BK454 BK455 HB HK HO461;clear ho hb hg hat;obtain ⟨hcz20_0,hcz20_1,hcz20_2,hfz20_0,hfz20_1,hfz20_2⟩:=bt3 BK454;have p462:0 ≤ ((ji11):Int):=of_decide_eq_true (by first | (with_reducible assumption) | assumption);have q462:(ji11) < (x455002_1.length:Int):=of_decide_eq_true (by first | (with_reducible assumption) | assumption);obtain ⟨ad462,e462,hx462_0,hx462_1⟩:=at_T42 (Kd.R_reads' HO_455002.out).2.2 (ji11) p462 q462;cases e462;replace p462:=eq_true p462;replace q462:=eq_true q462) | ((with_reducible refine gate_dst (N:=12) rfl ?_);refine box_event ?hg (N:=12) ?hd (cs:=#[.int .i64 0,.int .i64 0]) (t:=42) ?hr ?_;(case hd=>rfl);(case hg=>rfl);(case hr=>first | (go_simp;done) | (go_simp;rfl));intro gb463 hg w21 hbox hb;refine ev12 (Kd.R_below (Kd.R_elderB (Kd.R_mv HO_455002.out) gb463 (Nat.le_of_eq hg.symm)) hb) (Kd.R_below (Kd.R_mv HO461.out) hb) (kb BK454 hb) (kb BK455 hb) (Kept.below (S:=(fun k_=>P0_2_ k_)) (km HK) hb) (bs HB hb) (hbox) ((by rw [hg];exact (by first | exact HK.out.1 | exact (show Kept w _ (fun k_=>P0_2_ k_) from km HK).1):w.heap.size ≤ gb463)) (gle hg HB) (gnf hg BK454) (gne hg BK454) (gnf hg BK455) ?_;intro n0_ n1_ n2_ n3_ n4_ n5_ n6_ n7_ n8_ n9_ n10_ n11_;refine ev1 (gne hg BK455) ?_;intro n12_;clear HO_455002 HO461 BK454 BK455 HK HB;revert n0_ n1_ n2_ n3_ n4_ n5_ n6_ n7_ n8_ n9_ n10_ n11_ n12_;intro HO_455002 HO461 BK454 BK455 HK HB BK463 GW463 GE463 NB454_463 NB463_454 NB455_463 NB463_455;clear hb hbox hg;have hnb22:=NB463_454.out;have hnc22:=NB454_463.out;have hnb23:=NB463_455.out;have hnc23:=NB455_463.out;obtain ⟨hcz24_0,hcz24_1,hfz24_0,hfz24_1⟩:=bt2 BK463) | ((with_reducible refine gate_callee (f:=204) rfl ?_);refine goesL_ (some 40) rfl rfl Try.func204 (by kernel_rfl) rfl #[.agg #[.int .i64 ((rd_T42 x455002_1 (ji11)).f0),.int .i64 ((rd_T42 x455002_1 (ji11)).f1)],.int .i64 x9_1] rfl (by (try simp only [ma_,mb_,mc_]);first | done | (simp only [hji11];rfl) | rfl | (simp only [List.length_drop,List.length_take];rfl)) ?_;(with_reducible refine (impl_GoesTo.calls k1 ((rd_T42 x455002_1 (ji11)).f0) ((rd_T42 x455002_1 (ji11)).f1) x9_1 t464 true _ A14.out).mono ?_);rintro e w25 ⟨rfl,hb⟩;refine ⟨_,rfl,?_⟩;refine ev7 (Kd.R_below (Kd.R_mv (Kd.R_mono (Kd.R_far (p:=⟨gb463,1,none⟩) (Kd.R_far (p:=⟨gb463,0,none⟩) (Kd.R_mono HO_455002.out (fun k_ hk=>(⟨hk,hk.2⟩:_∧k_ ≠ gb463))) (fun _ hk=>hk.2) (.int .i64 ((rd_T42 x455002_1 (ji11)).f0))) (fun _ hk=>hk.2) (.int .i64 ((rd_T42 x455002_1 (ji11)).f1))) (fun _ h_=>h_.1))) hb) (Kd.R_below (Kd.R_ft HO461.out BK463.out (by decide)) hb) (blk_below (g:=gb454) (o:=.cells #[.int .i64 a0_0,.int .i64 a0_1,.slice (some ad462) x455002_1.length co4] 30 (0,0)) (fp BK454 rfl) hb) (blk_below (g:=gb455) (o:=.cells #[.int .i64 x456000_1,.int .i64 x456001_1,.int .i64 x456002_1] 80 (0,0)) (fp BK455 rfl) hb) (blk_below (g:=gb463) (o:=.cells #[.int .i64 ((rd_T42 x455002_1 (ji11)).f0),.int .i64 ((rd_T42 x455002_1 (ji11)).f1)] 42 (0,0)) (fp BK463 rfl) hb) (Kept.below (S:=(fun k_=>P0_2_ k_)) (km HK) hb) (bs HB hb) ?_;clear HO_455002 HO461 BK454 BK455 BK463 HK HB;intro HO_455002 HO461 BK454 BK455 BK463 HK HB;(try clear hb);obtain ⟨hcz26_0,hcz26_1,hfz26_0,hfz26_1⟩:=bt2 BK463))
     (try simp only [Act.put,za_,zb_,zc_])
     go_cut [] (fun wc=>∃ (kq:Nat) (x455002_15:List (S42)) (x464001_15:Int),Aside0 (impl_drop.j1 kq l1 x2_1 y459 x10_1 ji11 t464 a0_0 a0_1 x455002_15 ((rd_T42 x455002_1 (ji11)).f0) x464001_15 = some (r1,r2,r3,r4,r5))∧Aside0 (kq ≤ k1)∧Aside0 (Kd.R (Kd.int .i64) 3 wc w0.heap.size (fun k_=>(P0_2_ k_∨w.heap.size ≤ k_)) v460 y459)∧Aside0 (Kd.R k42 42 wc w0.heap.size (fun k_=>(P0_2_ k_∨w.heap.size ≤ k_)∧k_ ≠ gb463) (.slice (some ad462) x455002_1.length co4) x455002_15)∧Aside0 (wc.heap[gb454]? = some (.cells #[.int .i64 a0_0,.int .i64 a0_1,(.slice (some ad462) x455002_1.length co4)] 30 (0,0)))∧Aside0 (wc.heap[gb455]? = some (.cells #[.int .i64 x456000_1,.int .i64 x456001_1,.int .i64 x456002_1] 80 (0,0)))∧Aside0 (wc.heap[gb463]? = some (.cells #[.int .i64 ((rd_T42 x455002_1 (ji11)).f0),.int .i64 x464001_15] 42 (0,0)))∧Aside0 (Kept w wc (fun k_=>P0_2_ k_))∧Aside0 (Below w0.heap.size w0 wc))
     case first =>
      have H:=HC16.out;clear HC16;by_cases c27:((rd_T42 x455002_1 (ji11)).f0) = 3
      ·rw [if_pos c27] at H;have c27b0:(((rd_T42 x455002_1 (ji11)).f0) == 3) = true:=beq_iff_eq.mpr c27;have c27b1:(((rd_T42 x455002_1 (ji11)).f0) != 3) = false:=bne_eq_false_iff_eq.mpr c27;clear c27;(first | rw [c27b0] | (simp only [i64_w,i32_w];rw [c27b0]) | skip)
       obtain ⟨y466,hy466⟩:∃ y_:List (S42),y_ = (x455002_1.set ((ji11):Int).toNat (⟨(rd_T42 x455002_1 (ji11)).f0,wrap64 (1 - ((rd_T42 x455002_1 (ji11)).f1))⟩:S42)):=⟨_,rfl⟩
       replace H:(impl_drop.j1 k1 l1 x2_1 y459 x10_1 ji11 t464 a0_0 a0_1 y466 ((rd_T42 x455002_1 (ji11)).f0) ((rd_T42 x455002_1 (ji11)).f1)) = some (r1,r2,r3,r4,r5):=by first | (rw [hy466];with_reducible exact H) | (have H2_:=(Option.bind_some _ _).symm.trans H;rw [hy466];with_reducible exact H2_) | (have H2_:=(Option.bind_some _ _).symm.trans H;with_reducible exact H2_) | with_reducible exact H | (rw [hy466];exact H) | exact H
       have Ny466:=Aside0.mk hy466;clear hy466;have H':=Aside0.mk H;clear H;have hnb29:=NB454_455.out;have hnc29:=NB455_454.out;have hnb30:=NB454_463.out;have hnc30:=NB463_454.out;obtain ⟨hcz31_0,hcz31_1,hcz31_2,hfz31_0,hfz31_1,hfz31_2⟩:=bt3 BK454;have hnb32:=NB463_455.out;have hnc32:=NB455_463.out;obtain ⟨hcz33_0,hcz33_1,hfz33_0,hfz33_1⟩:=bt2 BK463;have p28:0 ≤ ((ji11):Int):=of_decide_eq_true (by first | (with_reducible assumption) | assumption);have q28:((ji11):Int) < ((x455002_1.length:Int):Int):=of_decide_eq_true (by first | (with_reducible assumption) | assumption);obtain ⟨go28,co28,eo28,gb28,gl28,cl28,HG28⟩:=Kd.R_form HO_455002.out (by omega);(first | cases eo28 | (injection eo28 with ea_ en_ ec_;(first | subst ea_ | (injection ea_ with ea_;subst ea_));subst ec_;clear en_))
       have GB28:=Aside0.mk gb28;have GG28:=Aside0.mk HG28;clear gb28 gl28 HG28;have HMgo28:=Aside0.mk (show (P0_2_ go28∨w.heap.size ≤ go28) from (HO_455002.out.1 _ rfl).1);(first | simp only [add_plain] at hx462_0 | skip)
       (first | simp only [add_plain] at hx462_1 | skip)
       obtain ⟨ce28,hcl28,hM28,hcc28,hfr28⟩:=Kd.R_elem HO_455002.out z42 ((ji11):Int) p28 q28;obtain rfl:=k42_openM hM28;have hx28_0:w25.cell? ⟨go28,((ji11):Int).toNat * 2,none⟩ = some (.int .i64 ((rd_T42 x455002_1 (ji11)).f0)):=hcc28 0 _ rfl;have hx28_1:w25.cell? ⟨go28,((ji11):Int).toNat * 2 + 1,none⟩ = some (.int .i64 ((rd_T42 x455002_1 (ji11)).f1)):=hcc28 1 _ rfl;have hf28_0:w25.frozen? ⟨go28,((ji11):Int).toNat * 2,none⟩ = false:=hfr28 0;have hf28_1:w25.frozen? ⟨go28,((ji11):Int).toNat * 2 + 1,none⟩ = false:=hfr28 1;clear hcl28 hcc28 hfr28 hM28;replace p28:=eq_true p28;replace q28:=eq_true q28;have HX34:=Aside0.mk (show Kd.R k42 42 w25 w0.heap.size (fun k_=>(P0_2_ k_∨w.heap.size ≤ k_)∧k_ ≠ gb463) (.slice (some ⟨go28,0,none⟩) x455002_1.length co4) x455002_1 from (Kd.R_mv HO_455002.out));obtain ⟨ce34,hcl34,hM34,hcc34,hfr34⟩:=Kd.R_elem HX34.out z42 ((ji11):Int) (of_decide_eq_true (by first | (with_reducible assumption) | assumption)) (by have h_:((ji11):Int) < ((x455002_1.length:Int):Int):=of_decide_eq_true (by first | (with_reducible assumption) | assumption);first | exact h_ | (have e_:=(Kd.R_reads' HO_455002.out).1;omega) | simpa using h_);obtain rfl:=k42_openM hM34;have HP34:=Kd.R_seg HX34.out ((ji11):Int) (of_decide_eq_true (by first | (with_reducible assumption) | assumption)) (by have h_:((ji11):Int) < ((x455002_1.length:Int):Int):=of_decide_eq_true (by first | (with_reducible assumption) | assumption);first | exact h_ | (have e_:=(Kd.R_reads' HO_455002.out).1;omega) | simpa using h_) (seg:=[.int .i64 (wrap64 (1 - ((rd_T42 x455002_1 (ji11)).f1)))]) (j:=1) hcl34 hcc34 (show 2 ≤ 2 from by decide) (x':=(⟨(rd_T42 x455002_1 (ji11)).f0,wrap64 (1 - ((rd_T42 x455002_1 (ji11)).f1))⟩:S42)) (k42_mkM _ _ _ (⟨(rd_T42 x455002_1 (ji11)).f0,wrap64 (1 - ((rd_T42 x455002_1 (ji11)).f1))⟩:S42) ) (fun _ hk=>hk);have hx34_1:=hcc34 1 _ rfl;(try simp only [show (k42).sz = 2 from rfl,Nat.mul_one,Nat.add_zero] at hx34_1)
       have hf34_1:=hfr34 1;(try simp only [show (k42).sz = 2 from rfl,Nat.mul_one,Nat.add_zero] at hf34_1)
       clear hcl34 hcc34 hfr34 hM34;go_wp2_with (first | ((with_reducible refine gate_store (t:=3) (p:=59) rfl ?_);refine store_event (t:=3) (p:=59) (v:=?vo_w35) (w1:=(w25.setCell ⟨go28,((ji11):Int).toNat * 2 + 1,none⟩ (.int .i64 (wrap64 (1 - ((rd_T42 x455002_1 (ji11)).f1)))))) ?hg ?ho ?hn ?hr ?_;(case ho=>rfl);(case hg=>rfl);(case hn=>rfl);(case hr=>first | (go_simp;done) | (go_simp;rfl));intro w35 hw;have hg:w25.grownBy w35 (some go28):=(by rw [hw];exact HP34.2);have hp_:Kd.R k42 42 w35 w0.heap.size (fun k_=>(P0_2_ k_∨w.heap.size ≤ k_)∧k_ ≠ gb463) (.slice (some ⟨go28,0,none⟩) x455002_1.length co4) y466:=(by rw [hw,Ny466.out];exact HP34.1);clear HP34;refine ev7 (hp_) (blk_grown (km_ BK454) hg (Kd.R_ne HO_455002.out BK454.out (by decide))) (blk_grown (km_ BK455) hg (Kd.R_ne HO_455002.out BK455.out (by decide))) (Kd.R_over' (v:=(.slice (some ⟨go28,0,none⟩) x455002_1.length co4)) (Kd.R_mv HO461.out) (Kd.R_typed HO_455002.out) (by decide) hg) (blk_grown (km_ BK463) hg (Kd.R_away HO_455002.out (fun _ hk=>hk.2))) ((by rw [hw];exact below_set (HB.out) GB28.out:Below w0.heap.size w0 w35)) (Kept.of_grown (S:=(fun k_=>P0_2_ k_)) hg (km HK) (fun k_ e_=>(HO_455002.out.1 k_ e_).1)) ?_;clear HO_455002 BK454 BK455 HO461 BK463 HB HK;intro HO_455002 BK454 BK455 HO461 BK463 HB HK;clear hg hw hp_))
       go_meet
       case rel=>exact ⟨_,(y466),((rd_T42 x455002_1 (ji11)).f1),H',⟨by have:=HK1.out;first | omega | exact Nat.le_refl _⟩,⟨by (try simp only [hl455002_1]);exact Kd.R_mv HO461.out⟩,⟨by (try simp only [hl455002_1]);exact Kd.R_mv HO_455002.out⟩,⟨by (try simp only [hl455002_1]);exact km_ BK454⟩,⟨by (try simp only [hl455002_1]);exact km_ BK455⟩,⟨by (try simp only [hl455002_1]);exact km_ BK463⟩,⟨km HK⟩,⟨bm HB⟩⟩
      ·rw [if_neg c27] at H;have c27b0:(((rd_T42 x455002_1 (ji11)).f0) == 3) = false:=beq_eq_false_iff_ne.mpr c27;have c27b1:(((rd_T42 x455002_1 (ji11)).f0) != 3) = true:=bne_iff_ne.mpr c27;(first | rw [c27b0] | (simp only [i64_w,i32_w];rw [c27b0]) | skip)
       have H':=Aside0.mk H;clear H;go_wp2;go_meet
       case rel=>exact ⟨_,(x455002_1),((rd_T42 x455002_1 (ji11)).f1),H',⟨by have:=HK1.out;first | omega | exact Nat.le_refl _⟩,⟨by (try simp only [hl455002_1]);exact Kd.R_mv HO461.out⟩,⟨by (try simp only [hl455002_1]);exact Kd.R_mv HO_455002.out⟩,⟨by (try simp only [hl455002_1]);exact km_ BK454⟩,⟨by (try simp only [hl455002_1]);exact km_ BK455⟩,⟨by (try simp only [hl455002_1]);exact km_ BK463⟩,⟨km HK⟩,⟨bm HB⟩⟩
     case rest =>
      clear HC16;(try clear c1);(try clear c2);(try clear p2);(try clear p4);(try clear q4);(try clear hx4);(try clear p6);(try clear c9);(try clear c9b0);(try clear c10);(try clear c12);(try clear c12b0);(try clear c13);(try clear c13b0);(try clear c15);(try clear c16);(try clear c17);(try clear c20);(try clear c22);(try clear c23);(try clear hcz18_0 hcz18_1 hcz18_2 hfz18_0 hfz18_1 hfz18_2);(try clear hcz20_0 hcz20_1 hcz20_2 hfz20_0 hfz20_1 hfz20_2);(try clear hcz24_0 hcz24_1 hfz24_0 hfz24_1);(try clear hcz26_0 hcz26_1 hfz26_0 hfz26_1);(try clear hx462_0);(try clear hx462_1);(try clear p2);(try clear p462);(try clear q462);obtain ⟨kq,x455002_15,x464001_15,HA,HJ15,HO_8,HO_455002,BK454,BK455,BK463,HK,HB⟩:=hcut;have hl455002_15:=(Kd.R_reads' HO_455002.out).1;rw [hl455002_15] at HO_455002;(try simp only [hl455002_15])
      (try simp only [hl455002_15] at BK454)
      (try simp only [hl455002_15] at BK455)
      (try simp only [hl455002_15] at BK463)
      (try simp only [hl455002_15] at HO_8)
      cases kq with
      | zero=>exact absurd HA.out (by simp [impl_drop.j1])
      | succ kj15 =>
       have H:=HA.out;clear HA;simp only [impl_drop.j1] at H;by_cases c36:((rd_T42 x455002_1 (ji11)).f0) = 6
       ·rw [if_pos c36] at H;have c36b0:(((rd_T42 x455002_1 (ji11)).f0) == 6) = true:=beq_iff_eq.mpr c36;have c36b1:(((rd_T42 x455002_1 (ji11)).f0) != 6) = false:=bne_eq_false_iff_eq.mpr c36;clear c36;replace H:=Option.bind_eq_some_iff.mp H;obtain ⟨t467,A370,H⟩:=H;(try dsimp only at H)
        have A37:=Aside0.mk A370;clear A370;by_cases c38:(wrap64 (x2_1 + t464)) < 0
        ·rw [if_pos c38] at H;have c38b0:decide ((wrap64 (x2_1 + t464)) < 0) = true:=decide_eq_true c38;clear c38;simp only [Option.some.injEq,Prod.mk.injEq] at H;obtain ⟨rfl,rfl,rfl,rfl,rfl⟩:=H;have hnb39:=NB463_454.out;have hnc39:=NB454_463.out;have hnb40:=NB463_455.out;have hnc40:=NB455_463.out;obtain ⟨hcz41_0,hcz41_1,hfz41_0,hfz41_1⟩:=bt2 BK463;have hnb42:=NB454_455.out;have hnc42:=NB455_454.out;obtain ⟨hcz43_0,hcz43_1,hcz43_2,hfz43_0,hfz43_1,hfz43_2⟩:=bt3 BK454;go_wp2_with (first | ((with_reducible refine gate_callee (f:=205) rfl ?_);refine goesL_ (some 66) rfl rfl Try.func205 (by kernel_rfl) rfl #[.agg #[.int .i64 a0_0,.int .i64 a0_1,.slice (some ad462) x455002_15.length co4],.slice A1 l1.length c1,.int .i64 ji11] rfl (by (try simp only [ma_,mb_,mc_]);first | done | (simp only [hji11];rfl) | rfl | (simp only [List.length_drop,List.length_take];rfl)) ?_;(with_reducible refine (impl_turnGroup.calls kj15 a0_0 a0_1 (fun k_=>some k_ = (.slice (some ad462) x455002_15.length co4:Value).ownBlock) (.slice (some ad462) x455002_15.length co4) x455002_15 _ _ l1 ji11 t467 w0 _ (bm HB) ?side2 ?side3 HC1.out A37.out).mono ?_);(case side2=>exact Kd.R_tight rfl HO_455002.out);(case side3=>exact Kd.C_kept_call HR1.out (km HK) (fun k_ hs_=>(fun e_=>(HO_455002.out.1 k_ e_.symm).1) hs_));rintro e w44 ⟨rfl,hy0,hb,hkp⟩;refine ⟨_,rfl,?_⟩;refine ev7 (Kd.R_mono (ok':=fun k_=>(P0_2_ k_∨w.heap.size ≤ k_)) (Kd.R_keptB ((Kd.R_apart' HO_8.out (Kd.R_typed HO_455002.out) (by decide))) hkp (fun k_ hk_ hs_=>(hk_.2) hs_)) (fun k_ hk_=>hk_.1.1)) (Kd.R_reok rfl hy0 (fun k_ e_=>HO_455002.out.1 k_ e_)) (blk_kept (km_ BK454) hkp (fun hs_=>(fun e_=>(Kd.R_ne HO_455002.out BK454.out (by decide)) e_) hs_)) (blk_kept (km_ BK455) hkp (fun hs_=>(fun e_=>(Kd.R_ne HO_455002.out BK455.out (by decide)) e_) hs_)) (blk_kept (km_ BK463) hkp (fun hs_=>(fun e_=>(Kd.R_away HO_455002.out (fun _ hk=>hk.2)) e_) hs_)) (Kept.then_ (S:=(fun k_=>P0_2_ k_)) (km HK) hkp (fun k_ hs_=>(fun e_=>(HO_455002.out.1 k_ e_.symm).1) hs_)) (hb) ?_;clear HO_8 HO_455002 BK454 BK455 BK463 HK HB;intro HO_8 HO_455002 BK454 BK455 BK463 HK HB;(try clear hb);(try clear hkp);(try clear hy0);obtain ⟨hcz45_0,hcz45_1,hcz45_2,hfz45_0,hfz45_1,hfz45_2⟩:=bt3 BK455))
         refine bodyPost_ret (results_ct rfl _ _ gb455 80 #[.int .i64 3,.int .i64 x10_1,.int .i64 (wrap64 (x2_1 + t464))] (0,0) _ rfl (fp BK455 rfl) Try.underlying80 rfl (by kernel_rfl)) rfl ?_;exact ⟨_,by first | rfl | (simp [e0_,e1_] <;> rfl) | (simp only [← hji11];first | rfl | (simp [e0_,e1_] <;> rfl)) | (simp [*,e0_,e1_] <;> rfl),Kd.R_mv (Kd.R_mono (ok':=fun k_=>((P0_2_ k_∨w.heap.size ≤ k_))) (Kd.R_far (p:=⟨gb455,2,none⟩) (Kd.R_far (p:=⟨gb455,1,none⟩) (Kd.R_far (p:=⟨gb455,0,none⟩) (Kd.R_types HO_8.out BK455.out (by decide)) (fun _ hk=>hk.2) (.int .i64 3)) (fun _ hk=>hk.2) (.int .i64 x10_1)) (fun _ hk=>hk.2) (.int .i64 (wrap64 (x2_1 + t464)))) (fun _ hk=>hk.1)),(by first | exact (Kd.R_mv (Kd.R_mono (ok':=fun k_=>((P0_2_ k_∨w.heap.size ≤ k_))) (Kd.R_far (p:=⟨gb455,2,none⟩) (Kd.R_far (p:=⟨gb455,1,none⟩) (Kd.R_far (p:=⟨gb455,0,none⟩) (Kd.R_types HO_455002.out BK455.out (by decide)) (fun _ hk=>hk.2) (.int .i64 3)) (fun _ hk=>hk.2) (.int .i64 x10_1)) (fun _ hk=>hk.2) (.int .i64 (wrap64 (x2_1 + t464)))) (fun _ hk=>hk.1.1))) | (simp only [hl455002_1,hl455002_15];exact (Kd.R_mv (Kd.R_mono (ok':=fun k_=>((P0_2_ k_∨w.heap.size ≤ k_))) (Kd.R_far (p:=⟨gb455,2,none⟩) (Kd.R_far (p:=⟨gb455,1,none⟩) (Kd.R_far (p:=⟨gb455,0,none⟩) (Kd.R_types HO_455002.out BK455.out (by decide)) (fun _ hk=>hk.2) (.int .i64 3)) (fun _ hk=>hk.2) (.int .i64 x10_1)) (fun _ hk=>hk.2) (.int .i64 (wrap64 (x2_1 + t464)))) (fun _ hk=>hk.1.1))))),bm HB,km HK⟩
        ·rw [if_neg c38] at H;have c38b0:decide ((wrap64 (x2_1 + t464)) < 0) = false:=decide_eq_false c38;clear c38;by_cases c46:(wrap64 (x2_1 + t464)) ≥ a0_1
         ·rw [if_pos c46] at H;have c46b0:decide (a0_1 ≤ (wrap64 (x2_1 + t464))) = true:=decide_eq_true c46;clear c46;simp only [Option.some.injEq,Prod.mk.injEq] at H;obtain ⟨rfl,rfl,rfl,rfl,rfl⟩:=H;have hnb47:=NB463_454.out;have hnc47:=NB454_463.out;have hnb48:=NB463_455.out;have hnc48:=NB455_463.out;obtain ⟨hcz49_0,hcz49_1,hfz49_0,hfz49_1⟩:=bt2 BK463;have hnb50:=NB454_455.out;have hnc50:=NB455_454.out;obtain ⟨hcz51_0,hcz51_1,hcz51_2,hfz51_0,hfz51_1,hfz51_2⟩:=bt3 BK454;go_wp2_with (first | ((with_reducible refine gate_callee (f:=205) rfl ?_);refine goesL_ (some 66) rfl rfl Try.func205 (by kernel_rfl) rfl #[.agg #[.int .i64 a0_0,.int .i64 a0_1,.slice (some ad462) x455002_15.length co4],.slice A1 l1.length c1,.int .i64 ji11] rfl (by (try simp only [ma_,mb_,mc_]);first | done | (simp only [hji11];rfl) | rfl | (simp only [List.length_drop,List.length_take];rfl)) ?_;(with_reducible refine (impl_turnGroup.calls kj15 a0_0 a0_1 (fun k_=>some k_ = (.slice (some ad462) x455002_15.length co4:Value).ownBlock) (.slice (some ad462) x455002_15.length co4) x455002_15 _ _ l1 ji11 t467 w0 _ (bm HB) ?side2 ?side3 HC1.out A37.out).mono ?_);(case side2=>exact Kd.R_tight rfl HO_455002.out);(case side3=>exact Kd.C_kept_call HR1.out (km HK) (fun k_ hs_=>(fun e_=>(HO_455002.out.1 k_ e_.symm).1) hs_));rintro e w52 ⟨rfl,hy0,hb,hkp⟩;refine ⟨_,rfl,?_⟩;refine ev7 (Kd.R_mono (ok':=fun k_=>(P0_2_ k_∨w.heap.size ≤ k_)) (Kd.R_keptB ((Kd.R_apart' HO_8.out (Kd.R_typed HO_455002.out) (by decide))) hkp (fun k_ hk_ hs_=>(hk_.2) hs_)) (fun k_ hk_=>hk_.1.1)) (Kd.R_reok rfl hy0 (fun k_ e_=>HO_455002.out.1 k_ e_)) (blk_kept (km_ BK454) hkp (fun hs_=>(fun e_=>(Kd.R_ne HO_455002.out BK454.out (by decide)) e_) hs_)) (blk_kept (km_ BK455) hkp (fun hs_=>(fun e_=>(Kd.R_ne HO_455002.out BK455.out (by decide)) e_) hs_)) (blk_kept (km_ BK463) hkp (fun hs_=>(fun e_=>(Kd.R_away HO_455002.out (fun _ hk=>hk.2)) e_) hs_)) (Kept.then_ (S:=(fun k_=>P0_2_ k_)) (km HK) hkp (fun k_ hs_=>(fun e_=>(HO_455002.out.1 k_ e_.symm).1) hs_)) (hb) ?_;clear HO_8 HO_455002 BK454 BK455 BK463 HK HB;intro HO_8 HO_455002 BK454 BK455 BK463 HK HB;(try clear hb);(try clear hkp);(try clear hy0);obtain ⟨hcz53_0,hcz53_1,hcz53_2,hfz53_0,hfz53_1,hfz53_2⟩:=bt3 BK454;obtain ⟨hcz54_0,hcz54_1,hcz54_2,hfz54_0,hfz54_1,hfz54_2⟩:=bt3 BK455))
          refine bodyPost_ret (results_ct rfl _ _ gb455 80 #[.int .i64 3,.int .i64 x10_1,.int .i64 (wrap64 (x2_1 + t464))] (0,0) _ rfl (fp BK455 rfl) Try.underlying80 rfl (by kernel_rfl)) rfl ?_;exact ⟨_,by first | rfl | (simp [e0_,e1_] <;> rfl) | (simp only [← hji11];first | rfl | (simp [e0_,e1_] <;> rfl)) | (simp [*,e0_,e1_] <;> rfl),Kd.R_mv (Kd.R_mono (ok':=fun k_=>((P0_2_ k_∨w.heap.size ≤ k_))) (Kd.R_far (p:=⟨gb455,2,none⟩) (Kd.R_far (p:=⟨gb455,1,none⟩) (Kd.R_far (p:=⟨gb455,0,none⟩) (Kd.R_types HO_8.out BK455.out (by decide)) (fun _ hk=>hk.2) (.int .i64 3)) (fun _ hk=>hk.2) (.int .i64 x10_1)) (fun _ hk=>hk.2) (.int .i64 (wrap64 (x2_1 + t464)))) (fun _ hk=>hk.1)),(by first | exact (Kd.R_mv (Kd.R_mono (ok':=fun k_=>((P0_2_ k_∨w.heap.size ≤ k_))) (Kd.R_far (p:=⟨gb455,2,none⟩) (Kd.R_far (p:=⟨gb455,1,none⟩) (Kd.R_far (p:=⟨gb455,0,none⟩) (Kd.R_types HO_455002.out BK455.out (by decide)) (fun _ hk=>hk.2) (.int .i64 3)) (fun _ hk=>hk.2) (.int .i64 x10_1)) (fun _ hk=>hk.2) (.int .i64 (wrap64 (x2_1 + t464)))) (fun _ hk=>hk.1.1))) | (simp only [hl455002_1,hl455002_15];exact (Kd.R_mv (Kd.R_mono (ok':=fun k_=>((P0_2_ k_∨w.heap.size ≤ k_))) (Kd.R_far (p:=⟨gb455,2,none⟩) (Kd.R_far (p:=⟨gb455,1,none⟩) (Kd.R_far (p:=⟨gb455,0,none⟩) (Kd.R_types HO_455002.out BK455.out (by decide)) (fun _ hk=>hk.2) (.int .i64 3)) (fun _ hk=>hk.2) (.int .i64 x10_1)) (fun _ hk=>hk.2) (.int .i64 (wrap64 (x2_1 + t464)))) (fun _ hk=>hk.1.1))))),bm HB,km HK⟩
         ·rw [if_neg c46] at H;have c46b0:decide (a0_1 ≤ (wrap64 (x2_1 + t464))) = false:=decide_eq_false c46;clear c46;have H':=Aside0.mk H;clear H;have hnb55:=NB463_454.out;have hnc55:=NB454_463.out;have hnb56:=NB463_455.out;have hnc56:=NB455_463.out;obtain ⟨hcz57_0,hcz57_1,hfz57_0,hfz57_1⟩:=bt2 BK463;have hnb58:=NB454_455.out;have hnc58:=NB455_454.out;obtain ⟨hcz59_0,hcz59_1,hcz59_2,hfz59_0,hfz59_1,hfz59_2⟩:=bt3 BK454;go_wp2_with (first | ((with_reducible refine gate_callee (f:=205) rfl ?_);refine goesL_ (some 66) rfl rfl Try.func205 (by kernel_rfl) rfl #[.agg #[.int .i64 a0_0,.int .i64 a0_1,.slice (some ad462) x455002_15.length co4],.slice A1 l1.length c1,.int .i64 ji11] rfl (by (try simp only [ma_,mb_,mc_]);first | done | (simp only [hji11];rfl) | rfl | (simp only [List.length_drop,List.length_take];rfl)) ?_;(with_reducible refine (impl_turnGroup.calls kj15 a0_0 a0_1 (fun k_=>some k_ = (.slice (some ad462) x455002_15.length co4:Value).ownBlock) (.slice (some ad462) x455002_15.length co4) x455002_15 _ _ l1 ji11 t467 w0 _ (bm HB) ?side2 ?side3 HC1.out A37.out).mono ?_);(case side2=>exact Kd.R_tight rfl HO_455002.out);(case side3=>exact Kd.C_kept_call HR1.out (km HK) (fun k_ hs_=>(fun e_=>(HO_455002.out.1 k_ e_.symm).1) hs_));rintro e w60 ⟨rfl,hy0,hb,hkp⟩;refine ⟨_,rfl,?_⟩;refine ev7 (Kd.R_mono (ok':=fun k_=>(P0_2_ k_∨w.heap.size ≤ k_)) (Kd.R_keptB ((Kd.R_apart' HO_8.out (Kd.R_typed HO_455002.out) (by decide))) hkp (fun k_ hk_ hs_=>(hk_.2) hs_)) (fun k_ hk_=>hk_.1.1)) (Kd.R_reok rfl hy0 (fun k_ e_=>HO_455002.out.1 k_ e_)) (blk_kept (km_ BK454) hkp (fun hs_=>(fun e_=>(Kd.R_ne HO_455002.out BK454.out (by decide)) e_) hs_)) (blk_kept (km_ BK455) hkp (fun hs_=>(fun e_=>(Kd.R_ne HO_455002.out BK455.out (by decide)) e_) hs_)) (blk_kept (km_ BK463) hkp (fun hs_=>(fun e_=>(Kd.R_away HO_455002.out (fun _ hk=>hk.2)) e_) hs_)) (Kept.then_ (S:=(fun k_=>P0_2_ k_)) (km HK) hkp (fun k_ hs_=>(fun e_=>(HO_455002.out.1 k_ e_.symm).1) hs_)) (hb) ?_;clear HO_8 HO_455002 BK454 BK455 BK463 HK HB;intro HO_8 HO_455002 BK454 BK455 BK463 HK HB;(try clear hb);(try clear hkp);(try clear hy0);obtain ⟨hcz61_0,hcz61_1,hcz61_2,hfz61_0,hfz61_1,hfz61_2⟩:=bt3 BK454))
          (try simp only [← hl455002_1,← hl455002_15])
          go_roundg kj15
          case measure=>have:=HK1.out;have:=HJ15.out;omega
          case rel=>exact ⟨(wrap64 (x2_1 + t464)),(y459),(wrap64 (-t464)),(wrap64 (x10_1 + 1)),(t467),(x456000_1),(x456001_1),(x456002_1),(by first | rfl | (simp;done) | (simp [*];done)),(by first | rfl | (simp;done) | (simp [*];done)),(by first | rfl | (simp;done) | (simp [*];done)),H',⟨by have:=HK1.out;have:=HJ15.out;omega⟩,⟨by (try simp only [hl455002_1]);(try simp only [hl455002_15]);exact Kd.R_mv HO_8.out⟩,⟨by (try simp only [hl455002_1]);(try simp only [hl455002_15]);exact Kd.R_mv (Kd.R_mono (ok':=fun k_=>((P0_2_ k_∨w.heap.size ≤ k_))) HO_455002.out (fun _ hk=>hk.1))⟩,⟨by (try simp only [hl455002_1]);(try simp only [hl455002_15]);exact km_ BK454⟩,⟨by (try simp only [hl455002_1]);(try simp only [hl455002_15]);exact km_ BK455⟩,⟨km HK⟩,⟨bm HB⟩⟩
       ·rw [if_neg c36] at H;have c36b0:(((rd_T42 x455002_1 (ji11)).f0) == 6) = false:=beq_eq_false_iff_ne.mpr c36;have c36b1:(((rd_T42 x455002_1 (ji11)).f0) != 6) = true:=bne_iff_ne.mpr c36;by_cases c62:(wrap64 (x2_1 + t464)) < 0
        ·rw [if_pos c62] at H;have c62b0:decide ((wrap64 (x2_1 + t464)) < 0) = true:=decide_eq_true c62;clear c62;simp only [Option.some.injEq,Prod.mk.injEq] at H;obtain ⟨rfl,rfl,rfl,rfl,rfl⟩:=H;have hnb63:=NB463_454.out;have hnc63:=NB454_463.out;have hnb64:=NB463_455.out;have hnc64:=NB455_463.out;obtain ⟨hcz65_0,hcz65_1,hfz65_0,hfz65_1⟩:=bt2 BK463;have hnb66:=NB455_454.out;have hnc66:=NB454_455.out;obtain ⟨hcz67_0,hcz67_1,hcz67_2,hfz67_0,hfz67_1,hfz67_2⟩:=bt3 BK455;go_wp2;refine bodyPost_ret (results_ct rfl _ _ gb455 80 #[.int .i64 3,.int .i64 x10_1,.int .i64 (wrap64 (x2_1 + t464))] (0,0) _ rfl (fp BK455 rfl) Try.underlying80 rfl (by kernel_rfl)) rfl ?_;exact ⟨_,by first | rfl | (simp [e0_,e1_] <;> rfl) | (simp only [← hji11];first | rfl | (simp [e0_,e1_] <;> rfl)) | (simp [*,e0_,e1_] <;> rfl),Kd.R_mv (Kd.R_mono (ok':=fun k_=>((P0_2_ k_∨w.heap.size ≤ k_))) (Kd.R_far (p:=⟨gb455,2,none⟩) (Kd.R_far (p:=⟨gb455,1,none⟩) (Kd.R_far (p:=⟨gb455,0,none⟩) (Kd.R_types HO_8.out BK455.out (by decide)) (fun _ hk=>hk.2) (.int .i64 3)) (fun _ hk=>hk.2) (.int .i64 x10_1)) (fun _ hk=>hk.2) (.int .i64 (wrap64 (x2_1 + t464)))) (fun _ hk=>hk.1)),(by first | exact (Kd.R_mv (Kd.R_mono (ok':=fun k_=>((P0_2_ k_∨w.heap.size ≤ k_))) (Kd.R_far (p:=⟨gb455,2,none⟩) (Kd.R_far (p:=⟨gb455,1,none⟩) (Kd.R_far (p:=⟨gb455,0,none⟩) (Kd.R_types HO_455002.out BK455.out (by decide)) (fun _ hk=>hk.2) (.int .i64 3)) (fun _ hk=>hk.2) (.int .i64 x10_1)) (fun _ hk=>hk.2) (.int .i64 (wrap64 (x2_1 + t464)))) (fun _ hk=>hk.1.1))) | (simp only [hl455002_1,hl455002_15];exact (Kd.R_mv (Kd.R_mono (ok':=fun k_=>((P0_2_ k_∨w.heap.size ≤ k_))) (Kd.R_far (p:=⟨gb455,2,none⟩) (Kd.R_far (p:=⟨gb455,1,none⟩) (Kd.R_far (p:=⟨gb455,0,none⟩) (Kd.R_types HO_455002.out BK455.out (by decide)) (fun _ hk=>hk.2) (.int .i64 3)) (fun _ hk=>hk.2) (.int .i64 x10_1)) (fun _ hk=>hk.2) (.int .i64 (wrap64 (x2_1 + t464)))) (fun _ hk=>hk.1.1))))),bm HB,km HK⟩
        ·rw [if_neg c62] at H;have c62b0:decide ((wrap64 (x2_1 + t464)) < 0) = false:=decide_eq_false c62;clear c62;by_cases c68:(wrap64 (x2_1 + t464)) ≥ a0_1
         ·rw [if_pos c68] at H;have c68b0:decide (a0_1 ≤ (wrap64 (x2_1 + t464))) = true:=decide_eq_true c68;clear c68;simp only [Option.some.injEq,Prod.mk.injEq] at H;obtain ⟨rfl,rfl,rfl,rfl,rfl⟩:=H;have hnb69:=NB463_454.out;have hnc69:=NB454_463.out;have hnb70:=NB463_455.out;have hnc70:=NB455_463.out;obtain ⟨hcz71_0,hcz71_1,hfz71_0,hfz71_1⟩:=bt2 BK463;have hnb72:=NB454_455.out;have hnc72:=NB455_454.out;obtain ⟨hcz73_0,hcz73_1,hcz73_2,hfz73_0,hfz73_1,hfz73_2⟩:=bt3 BK454;obtain ⟨hcz74_0,hcz74_1,hcz74_2,hfz74_0,hfz74_1,hfz74_2⟩:=bt3 BK455;go_wp2;refine bodyPost_ret (results_ct rfl _ _ gb455 80 #[.int .i64 3,.int .i64 x10_1,.int .i64 (wrap64 (x2_1 + t464))] (0,0) _ rfl (fp BK455 rfl) Try.underlying80 rfl (by kernel_rfl)) rfl ?_;exact ⟨_,by first | rfl | (simp [e0_,e1_] <;> rfl) | (simp only [← hji11];first | rfl | (simp [e0_,e1_] <;> rfl)) | (simp [*,e0_,e1_] <;> rfl),Kd.R_mv (Kd.R_mono (ok':=fun k_=>((P0_2_ k_∨w.heap.size ≤ k_))) (Kd.R_far (p:=⟨gb455,2,none⟩) (Kd.R_far (p:=⟨gb455,1,none⟩) (Kd.R_far (p:=⟨gb455,0,none⟩) (Kd.R_types HO_8.out BK455.out (by decide)) (fun _ hk=>hk.2) (.int .i64 3)) (fun _ hk=>hk.2) (.int .i64 x10_1)) (fun _ hk=>hk.2) (.int .i64 (wrap64 (x2_1 + t464)))) (fun _ hk=>hk.1)),(by first | exact (Kd.R_mv (Kd.R_mono (ok':=fun k_=>((P0_2_ k_∨w.heap.size ≤ k_))) (Kd.R_far (p:=⟨gb455,2,none⟩) (Kd.R_far (p:=⟨gb455,1,none⟩) (Kd.R_far (p:=⟨gb455,0,none⟩) (Kd.R_types HO_455002.out BK455.out (by decide)) (fun _ hk=>hk.2) (.int .i64 3)) (fun _ hk=>hk.2) (.int .i64 x10_1)) (fun _ hk=>hk.2) (.int .i64 (wrap64 (x2_1 + t464)))) (fun _ hk=>hk.1.1))) | (simp only [hl455002_1,hl455002_15];exact (Kd.R_mv (Kd.R_mono (ok':=fun k_=>((P0_2_ k_∨w.heap.size ≤ k_))) (Kd.R_far (p:=⟨gb455,2,none⟩) (Kd.R_far (p:=⟨gb455,1,none⟩) (Kd.R_far (p:=⟨gb455,0,none⟩) (Kd.R_types HO_455002.out BK455.out (by decide)) (fun _ hk=>hk.2) (.int .i64 3)) (fun _ hk=>hk.2) (.int .i64 x10_1)) (fun _ hk=>hk.2) (.int .i64 (wrap64 (x2_1 + t464)))) (fun _ hk=>hk.1.1))))),bm HB,km HK⟩
         ·rw [if_neg c68] at H;have c68b0:decide (a0_1 ≤ (wrap64 (x2_1 + t464))) = false:=decide_eq_false c68;clear c68;have H':=Aside0.mk H;clear H;have hnb75:=NB463_454.out;have hnc75:=NB454_463.out;have hnb76:=NB463_455.out;have hnc76:=NB455_463.out;obtain ⟨hcz77_0,hcz77_1,hfz77_0,hfz77_1⟩:=bt2 BK463;have hnb78:=NB454_455.out;have hnc78:=NB455_454.out;obtain ⟨hcz79_0,hcz79_1,hcz79_2,hfz79_0,hfz79_1,hfz79_2⟩:=bt3 BK454;go_wp2;(try simp only [← hl455002_1,← hl455002_15])
          go_roundg kj15
          case measure=>have:=HK1.out;have:=HJ15.out;omega
          case rel=>exact ⟨(wrap64 (x2_1 + t464)),(y459),(wrap64 (-t464)),(wrap64 (x10_1 + 1)),(x455002_15),(x456000_1),(x456001_1),(x456002_1),(by first | rfl | (simp;done) | (simp [*];done)),(by first | rfl | (simp;done) | (simp [*];done)),(by first | rfl | (simp;done) | (simp [*];done)),H',⟨by have:=HK1.out;have:=HJ15.out;omega⟩,⟨by (try simp only [hl455002_1]);(try simp only [hl455002_15]);exact Kd.R_mv HO_8.out⟩,⟨by (try simp only [hl455002_1]);(try simp only [hl455002_15]);exact Kd.R_mv (Kd.R_mono (ok':=fun k_=>((P0_2_ k_∨w.heap.size ≤ k_))) HO_455002.out (fun _ hk=>hk.1))⟩,⟨by (try simp only [hl455002_1]);(try simp only [hl455002_15]);exact km_ BK454⟩,⟨by (try simp only [hl455002_1]);(try simp only [hl455002_15]);exact km_ BK455⟩,⟨km HK⟩,⟨bm HB⟩⟩
    ·replace c15:=Bool.eq_false_iff.mpr c15;subst c15;have H1:(some (2,x10_1,x2_1,y459,x455002_1)) = some (r1,r2,r3,r4,r5):=by rw [if_neg (show ¬ (false = true) by decide)] at H;exact H
     clear H;have H:=H1;clear H1;simp only [Option.some.injEq,Prod.mk.injEq] at H;obtain ⟨rfl,rfl,rfl,rfl,rfl⟩:=H;have hnb80:=NB454_455.out;have hnc80:=NB455_454.out;obtain ⟨hcz81_0,hcz81_1,hcz81_2,hfz81_0,hfz81_1,hfz81_2⟩:=bt3 BK454;go_wp2_with (first | ((with_reducible refine gate_builtin (b:=.append) (xs:=#[.tmp 28,.tmp 30]) rfl ?_);at_builtin;refine Kd.R_append (Kd.int .i64) (w0:=w0) w0.heap.size rfl (.tmp 28) (.tmp 30) 25 3 (.int .i64 0) 8 rfl Try.underlying25 info3 rfl (by decide) (by omega) u8 x8_1 ji11 [.int .i64 ji11] (fun k_=>(P0_2_ k_∨w.heap.size ≤ k_)) (fun _=>False) rfl rfl ?aP (fun _ hk=>hk.elim) ?aF ?aO ?aB ?aS ?aL ?_;(case aP=>exact rfl);(case aB=>exact (bm HB));(case aF=>exact (fun k_ hk=>(.inr (Nat.le_trans (by first | exact HK.out.1 | exact (show Kept w _ (fun k_=>P0_2_ k_) from km HK).1) hk))));(case aO=>exact (Kd.R_mv HO_8.out));(case aS=>exact (below_size (bm HB)));(case aL=>have:=LMc10.out;omega);intro v460 w82 ho hb hg hat;rw [← Ny459.out] at ho;refine ev6 (Kd.R_over' (Kd.R_mv HO_455002.out) (Kd.R_typed (Kd.R_mv HO_8.out)) (by decide) hg) (blk_grown (km_ BK454) hg (Kd.R_ne HO_8.out BK454.out (by decide))) (blk_grown (km_ BK455) hg (Kd.R_ne HO_8.out BK455.out (by decide))) (hb) (Kept.of_grown (S:=(fun k_=>P0_2_ k_)) hg (km HK) (fun k_ e_=>(HO_8.out.1 k_ e_))) (ho) ?_;clear HO_455002 BK454 BK455 HB HK HO_8;intro HO_455002 BK454 BK455 HB HK HO461;clear ho hb hg hat;obtain ⟨hcz83_0,hcz83_1,hcz83_2,hfz83_0,hfz83_1,hfz83_2⟩:=bt3 BK454;have p462:0 ≤ ((ji11):Int):=of_decide_eq_true (by first | (with_reducible assumption) | assumption);have q462:(ji11) < (x455002_1.length:Int):=of_decide_eq_true (by first | (with_reducible assumption) | assumption);obtain ⟨ad462,e462,hx462_0,hx462_1⟩:=at_T42 (Kd.R_reads' HO_455002.out).2.2 (ji11) p462 q462;cases e462;replace p462:=eq_true p462;replace q462:=eq_true q462) | ((with_reducible refine gate_dst (N:=12) rfl ?_);refine box_event ?hg (N:=12) ?hd (cs:=#[.int .i64 0,.int .i64 0]) (t:=42) ?hr ?_;(case hd=>rfl);(case hg=>rfl);(case hr=>first | (go_simp;done) | (go_simp;rfl));intro gb463 hg w84 hbox hb;refine ev12 (Kd.R_below (Kd.R_elderB (Kd.R_mv HO_455002.out) gb463 (Nat.le_of_eq hg.symm)) hb) (Kd.R_below (Kd.R_mv HO461.out) hb) (kb BK454 hb) (kb BK455 hb) (Kept.below (S:=(fun k_=>P0_2_ k_)) (km HK) hb) (bs HB hb) (hbox) ((by rw [hg];exact (by first | exact HK.out.1 | exact (show Kept w _ (fun k_=>P0_2_ k_) from km HK).1):w.heap.size ≤ gb463)) (gle hg HB) (gnf hg BK454) (gne hg BK454) (gnf hg BK455) ?_;intro n0_ n1_ n2_ n3_ n4_ n5_ n6_ n7_ n8_ n9_ n10_ n11_;refine ev1 (gne hg BK455) ?_;intro n12_;clear HO_455002 HO461 BK454 BK455 HK HB;revert n0_ n1_ n2_ n3_ n4_ n5_ n6_ n7_ n8_ n9_ n10_ n11_ n12_;intro HO_455002 HO461 BK454 BK455 HK HB BK463 GW463 GE463 NB454_463 NB463_454 NB455_463 NB463_455;clear hb hbox hg;have hnb85:=NB463_454.out;have hnc85:=NB454_463.out;have hnb86:=NB463_455.out;have hnc86:=NB455_463.out;obtain ⟨hcz87_0,hcz87_1,hfz87_0,hfz87_1⟩:=bt2 BK463) | ((with_reducible refine gate_callee (f:=204) rfl ?_);refine goesL_ (some 40) rfl rfl Try.func204 (by kernel_rfl) rfl #[.agg #[.int .i64 ((rd_T42 x455002_1 (ji11)).f0),.int .i64 ((rd_T42 x455002_1 (ji11)).f1)],.int .i64 x9_1] rfl (by (try simp only [ma_,mb_,mc_]);first | done | (simp only [hji11];rfl) | rfl | (simp only [List.length_drop,List.length_take];rfl)) ?_;(with_reducible refine (impl_GoesTo.calls k1 ((rd_T42 x455002_1 (ji11)).f0) ((rd_T42 x455002_1 (ji11)).f1) x9_1 t464 false _ A14.out).mono ?_);rintro e w88 ⟨rfl,hb⟩;refine ⟨_,rfl,?_⟩;refine ev7 (Kd.R_below (Kd.R_mv (Kd.R_mono (Kd.R_far (p:=⟨gb463,1,none⟩) (Kd.R_far (p:=⟨gb463,0,none⟩) (Kd.R_mono HO_455002.out (fun k_ hk=>(⟨hk,hk.2⟩:_∧k_ ≠ gb463))) (fun _ hk=>hk.2) (.int .i64 ((rd_T42 x455002_1 (ji11)).f0))) (fun _ hk=>hk.2) (.int .i64 ((rd_T42 x455002_1 (ji11)).f1))) (fun _ h_=>h_.1))) hb) (Kd.R_below (Kd.R_ft HO461.out BK463.out (by decide)) hb) (blk_below (g:=gb454) (o:=.cells #[.int .i64 a0_0,.int .i64 a0_1,.slice (some ad462) x455002_1.length co4] 30 (0,0)) (fp BK454 rfl) hb) (blk_below (g:=gb455) (o:=.cells #[.int .i64 x456000_1,.int .i64 x456001_1,.int .i64 x456002_1] 80 (0,0)) (fp BK455 rfl) hb) (blk_below (g:=gb463) (o:=.cells #[.int .i64 ((rd_T42 x455002_1 (ji11)).f0),.int .i64 ((rd_T42 x455002_1 (ji11)).f1)] 42 (0,0)) (fp BK463 rfl) hb) (Kept.below (S:=(fun k_=>P0_2_ k_)) (km HK) hb) (bs HB hb) ?_;clear HO_455002 HO461 BK454 BK455 BK463 HK HB;intro HO_455002 HO461 BK454 BK455 BK463 HK HB;(try clear hb);obtain ⟨hcz89_0,hcz89_1,hcz89_2,hfz89_0,hfz89_1,hfz89_2⟩:=bt3 BK455))
     refine bodyPost_ret (results_ct rfl _ _ gb455 80 #[.int .i64 2,.int .i64 x10_1,.int .i64 x2_1] (0,0) _ rfl (fp BK455 rfl) Try.underlying80 rfl (by kernel_rfl)) rfl ?_;exact ⟨_,by first | rfl | (simp [e0_,e1_] <;> rfl) | (simp only [← hji11];first | rfl | (simp [e0_,e1_] <;> rfl)) | (simp [*,e0_,e1_] <;> rfl),Kd.R_mv (Kd.R_mono (ok':=fun k_=>((P0_2_ k_∨w.heap.size ≤ k_))) (Kd.R_far (p:=⟨gb455,2,none⟩) (Kd.R_far (p:=⟨gb455,1,none⟩) (Kd.R_far (p:=⟨gb455,0,none⟩) (Kd.R_types HO461.out BK455.out (by decide)) (fun _ hk=>hk.2) (.int .i64 2)) (fun _ hk=>hk.2) (.int .i64 x10_1)) (fun _ hk=>hk.2) (.int .i64 x2_1)) (fun _ hk=>hk.1)),(by first | exact (Kd.R_mv (Kd.R_mono (ok':=fun k_=>((P0_2_ k_∨w.heap.size ≤ k_))) (Kd.R_far (p:=⟨gb455,2,none⟩) (Kd.R_far (p:=⟨gb455,1,none⟩) (Kd.R_far (p:=⟨gb455,0,none⟩) (Kd.R_types HO_455002.out BK455.out (by decide)) (fun _ hk=>hk.2) (.int .i64 2)) (fun _ hk=>hk.2) (.int .i64 x10_1)) (fun _ hk=>hk.2) (.int .i64 x2_1)) (fun _ hk=>hk.1.1))) | (simp only [hl455002_1];exact (Kd.R_mv (Kd.R_mono (ok':=fun k_=>((P0_2_ k_∨w.heap.size ≤ k_))) (Kd.R_far (p:=⟨gb455,2,none⟩) (Kd.R_far (p:=⟨gb455,1,none⟩) (Kd.R_far (p:=⟨gb455,0,none⟩) (Kd.R_types HO_455002.out BK455.out (by decide)) (fun _ hk=>hk.2) (.int .i64 2)) (fun _ hk=>hk.2) (.int .i64 x10_1)) (fun _ hk=>hk.2) (.int .i64 x2_1)) (fun _ hk=>hk.1.1))))),bm HB,km HK⟩
   ·rw [if_neg c9] at H;have c9b0:decide (x10_1 < a0_0) = false:=decide_eq_false c9;clear c9;simp only [Option.some.injEq,Prod.mk.injEq] at H;obtain ⟨rfl,rfl,rfl,rfl,rfl⟩:=H;have hnb90:=NB454_455.out;have hnc90:=NB455_454.out;obtain ⟨hcz91_0,hcz91_1,hcz91_2,hfz91_0,hfz91_1,hfz91_2⟩:=bt3 BK454;obtain ⟨hcz92_0,hcz92_1,hcz92_2,hfz92_0,hfz92_1,hfz92_2⟩:=bt3 BK455;go_wp2;refine bodyPost_ret (results_ct rfl _ _ gb455 80 #[.int .i64 1,.int .i64 a0_0,.int .i64 x2_1] (0,0) _ rfl (fp BK455 rfl) Try.underlying80 rfl (by kernel_rfl)) rfl ?_;exact ⟨_,by first | rfl | (simp [e0_,e1_] <;> rfl) | (simp [*,e0_,e1_] <;> rfl),Kd.R_mv (Kd.R_mono (ok':=fun k_=>((P0_2_ k_∨w.heap.size ≤ k_))) (Kd.R_far (p:=⟨gb455,2,none⟩) (Kd.R_far (p:=⟨gb455,1,none⟩) (Kd.R_far (p:=⟨gb455,0,none⟩) (Kd.R_types HO_8.out BK455.out (by decide)) (fun _ hk=>hk.2) (.int .i64 1)) (fun _ hk=>hk.2) (.int .i64 a0_0)) (fun _ hk=>hk.2) (.int .i64 x2_1)) (fun _ hk=>hk.1)),(by first | exact (Kd.R_mv (Kd.R_mono (ok':=fun k_=>((P0_2_ k_∨w.heap.size ≤ k_))) (Kd.R_far (p:=⟨gb455,2,none⟩) (Kd.R_far (p:=⟨gb455,1,none⟩) (Kd.R_far (p:=⟨gb455,0,none⟩) (Kd.R_types HO_455002.out BK455.out (by decide)) (fun _ hk=>hk.2) (.int .i64 1)) (fun _ hk=>hk.2) (.int .i64 a0_0)) (fun _ hk=>hk.2) (.int .i64 x2_1)) (fun _ hk=>hk.1))) | (simp only [hl455002_1];exact (Kd.R_mv (Kd.R_mono (ok':=fun k_=>((P0_2_ k_∨w.heap.size ≤ k_))) (Kd.R_far (p:=⟨gb455,2,none⟩) (Kd.R_far (p:=⟨gb455,1,none⟩) (Kd.R_far (p:=⟨gb455,0,none⟩) (Kd.R_types HO_455002.out BK455.out (by decide)) (fun _ hk=>hk.2) (.int .i64 1)) (fun _ hk=>hk.2) (.int .i64 a0_0)) (fun _ hk=>hk.2) (.int .i64 x2_1)) (fun _ hk=>hk.1))))),bm HB,km HK⟩

/-! ### impl_copyBoard: function 163 -/
def impl_copyBoard.f (a0_0:Int) (a0_1:Int) (l0_2:List (S42)):Option (Int × Int × (List (S42))):=(some (([]:List (S42)):List (S42))).bind fun y470=>(if y470.length + l0_2.length < 8796093022208 then (some (a0_0,a0_1,(y470 ++ l0_2))) else (none))
theorem impl_copyBoard.calls (a0_0:Int) (a0_1:Int) (A0_2:Option Addr) (c0_2:Nat) (l0_2:List (S42)) (r1:Int) (r2:Int) (r3:List (S42)) (w:World) (hr0_2:Kd.C k42 w A0_2 l0_2.length l0_2) (hc0_2:l0_2.length ≤ c0_2) (h:impl_copyBoard.f a0_0 a0_1 l0_2 = some (r1,r2,r3)) :
    Calls Try.prog 163 #[.agg #[.int .i64 a0_0,.int .i64 a0_1,.slice A0_2 l0_2.length c0_2]] w fun e w'=>∃ v2_:Value,e = .returned (.agg #[.int .i64 r1,.int .i64 r2,v2_])∧Kd.R k42 42 w' w.heap.size (fun _=>True) v2_ r3∧Below w.heap.size w w':=by
 have S:=St.init (w:=w) (dc k42_heap at42 hr0_2 hc0_2 dn)
 clear hr0_2 hc0_2
 have F:=S.fc
 have H:=h;clear h;unfold impl_copyBoard.f at H
 (first | (with_reducible replace H:=ob_ H;obtain ⟨y470,hy470,H⟩:=H;(try dsimp only at H)) | (obtain ⟨y470,hy470⟩:∃ y_:List (S42),y_ = (([]:List (S42))):=⟨_,rfl⟩;(try rw [← hy470] at H);(try simp only [Option.bind_some] at H)));have Ny470:=Aside0.mk hy470;clear hy470
 replace H:=np_ H;obtain ⟨c2,H⟩:=H
 (first | (with_reducible replace H:=ob_ H;obtain ⟨y473,hy473,H⟩:=H;(try dsimp only at H)) | (obtain ⟨y473,hy473⟩:∃ y_:List (S42),y_ = (y470 ++ l0_2):=⟨_,rfl⟩;(try rw [← hy473] at H);(try simp only [Option.bind_some] at H)));have Ny473:=Aside0.mk hy473;clear hy473
 simp only [Option.some.injEq,Prod.mk.injEq] at H
 obtain ⟨rfl,rfl,rfl⟩:=H
 go_enter Try.func163,Try.ntmps163
 go_wp2_with (first | ((with_reducible refine gd 1 rfl (L ?_));refine bo 1 (.agg #[_,_,_]) S ?_;clear S F;intro gb468 W S;have F:=S.fc) | ((with_reducible refine gd 2 rfl (L ?_));refine al 2 S zi30 ?_;clear S F;intro gb469 W S;have F:=S.fc) | ((with_reducible refine gs (t:=30) rfl (L ?_));(first | refine sb (.agg #[_,_,_]) S sz30 ?_ | refine ro (.agg #[_,_,_]) S sz30 ?_ (ho:=rfl) (hx:=rfl) (hy:=rfl));clear S F;intro W S;(try rw [← Ny473.out] at S);have F:=S.fc))
 refine rgP S (fun _ S=>S.tl) [(0,0),(0,2),(0,5),(1,1),(1,3),(1,6),(2,4),(2,7),(0,8),(2,9)] [] (by kernel_rfl) (by kernel_rfl) (fun _ d _ _ _ h=>by cases d <;> exact h) ?_;clear S F;intro W S;have S0:=S.tl;have F:=S.fc
 repeat (first | (refine q0 (h:=?_)) | (refine q1 S0 (h:=?_)) | (refine q0n (h:=?_)) | (refine q1n S0 (h:=?_)))
 refine lk2 (by rfl) (by exact (Eq.refl true)) ?_;refine lia 7 at42 42 S ([]:List (S42)) (fun _ _=>(Reps.none _ _)) (by first | (go_simp;done) | (go_simp;rfl)) ?_;clear S F;intro Ay470 cy470 W S;(try rw [← Ny470.out] at S ⊢);(try rw [← Ny473.out] at S ⊢);have F:=S.fc
 clear S0;have S0:=S.tl.tl;refine ⟨S0,?_⟩
 refine lk2 (by rfl) (by exact (Eq.refl true)) ?_;refine apr (A:=Ay470) (ys:=l0_2) 10 S Try.underlying24 info42 S.c ?_ (ho:=rfl) (hs:=rfl) (hx:=rfl);clear S F;intro Ay473 cy473 W S;(try rw [← Ny473.out] at S ⊢);have F:=S.fc
 clear S0;have S0:=S.tl.tl;refine ⟨S0,?_⟩
 repeat (first | (refine q0 (h:=?_)) | (refine q1 S0 (h:=?_)) | (refine q0n (h:=?_)) | (refine q1n S0 (h:=?_)))
 refine lk2 (by rfl) (by exact (Eq.refl true)) ?_;(first | refine sb (.agg #[_,_,_]) S sz30 ?_ | refine ro (.agg #[_,_,_]) S sz30 ?_ (ho:=rfl) (hx:=rfl) (hy:=rfl));clear S F;intro W S;(try rw [← Ny473.out] at S);have F:=S.fc
 clear S0;have S0:=S.tl.tl;refine ⟨S0,?_⟩
 refine oz ?_
 try clear S0
 go_wp2_with (first | ((with_reducible refine gs (t:=30) rfl (L ?_));(first | refine sb (.agg #[_,_,_]) S sz30 ?_ | refine ro (.agg #[_,_,_]) S sz30 ?_ (ho:=rfl) (hx:=rfl) (hy:=rfl));clear S F;intro W S;(try rw [← Ny473.out] at S);have F:=S.fc))
 refine bodyPost_ret (results_cell_row rfl _ _ gb469 30 #[.int .i64 a0_0,.int .i64 a0_1,.slice Ay473 y473.length cy473] (0,0) _ rfl S.hb Try.underlying30 rfl (by kernel_rfl)) rfl ?_
 exact ⟨_,(by first | rfl | (simp [e0_,e1_] <;> rfl) | (simp [*,e0_,e1_] <;> rfl)),(by first | exact S.r | exact Kd.R_nil _ _ _ _ _),S.below⟩

/-! ### impl_isGeared: function 206 -/
def impl_isGeared.f (a0_0:Int) (a0_1:Int):Option (Bool):=if a0_0 = 6 then (some true) else (some (a0_0 == 7))
theorem impl_isGeared.calls (a0_0:Int) (a0_1:Int) (r:Bool) (w:World) (h:impl_isGeared.f a0_0 a0_1 = some r) :
    Calls Try.prog 206 #[.agg #[.int .i64 a0_0,.int .i64 a0_1]] w fun e w'=>e = .returned (.bool r)∧Below w.heap.size w w':=by
 have S:=St.init (w:=w) dn
 have F:=S.fc
 have H:=h;clear h;unfold impl_isGeared.f at H
 replace H:=sp_ H;rcases H with ⟨c2,H⟩ | ⟨c2,H⟩
 · skip
   replace c2:=ceq c2
   obtain rfl:=Option.some.inj H
   go_enter Try.func206,Try.ntmps206
   go_wp2_with (first | ((with_reducible refine gd 1 rfl (L ?_));refine bo 1 (.agg #[_,_]) S ?_;clear S F;intro gb476 W S;have F:=S.fc))
   go_ret
   exact ⟨(by first | rfl | (simp [e0_,e1_] <;> rfl) | (simp [*,e0_,e1_] <;> rfl)),S.below⟩
 · skip
   replace c2:=cne c2
   obtain rfl:=Option.some.inj H
   go_enter Try.func206,Try.ntmps206
   go_wp2_with (first | ((with_reducible refine gd 1 rfl (L ?_));refine bo 1 (.agg #[_,_]) S ?_;clear S F;intro gb476 W S;have F:=S.fc))
   go_ret
   exact ⟨(by first | rfl | (simp [e0_,e1_] <;> rfl) | (simp [*,e0_,e1_] <;> rfl)),S.below⟩

/-! ### impl_besideOf: function 207 -/
mutual
def impl_besideOf.j0:Nat→Int→List Int→Int→Int→Int→Int→List (S42)→Option (List Int)
  | 0,_,_,_,_,_,_,_=>none
  | k + 1,x1,x5,x6,x7,x478000,x478001,x478002=>if x7 > 0 then (if x5.length < 17592186044416 then (impl_besideOf.j1 k x1 (x5 ++ [wrap64 (x1 - 1)]) x6 x7 x478000 x478001 x478002) else (none)) else (impl_besideOf.j1 k x1 x5 x6 x7 x478000 x478001 x478002)
def impl_besideOf.j1:Nat→Int→List Int→Int→Int→Int→Int→List (S42)→Option (List Int)
  | 0,_,_,_,_,_,_,_=>none
  | k + 1,x1,x5,x6,x7,x478000,x478001,x478002=>if (wrap64 (x7 + 1)) < x478001 then (if x5.length < 17592186044416 then ((some (x5 ++ [wrap64 (x1 + 1)]:List Int)).bind fun y487=>(if (wrap64 (x6 + 1)) < x478000 then (if y487.length < 17592186044416 then (some (y487 ++ [wrap64 (x1 + x478001)])) else (none)) else (some y487))) else (none)) else (if (wrap64 (x6 + 1)) < x478000 then (if x5.length < 17592186044416 then (some (x5 ++ [wrap64 (x1 + x478001)])) else (none)) else (some x5))
end
def impl_besideOf.f (k:Nat) (a0_0:Int) (a0_1:Int) (l0_2:List (S42)) (a1:Int):Option (List Int):=(some (([]:List Int):List Int)).bind fun y478=>(if a0_1 = 0 then (none) else (if (wrap64 (Int.tdiv a1 a0_1)) > 0 then (if y478.length < 17592186044416 then (impl_besideOf.j0 k a1 (y478 ++ [wrap64 (a1 - a0_1)]) (wrap64 (Int.tdiv a1 a0_1)) (Int.tmod a1 a0_1) a0_0 a0_1 l0_2) else (none)) else (impl_besideOf.j0 k a1 y478 (wrap64 (Int.tdiv a1 a0_1)) (Int.tmod a1 a0_1) a0_0 a0_1 l0_2)))
theorem impl_besideOf.calls (k:Nat) (a0_0:Int) (a0_1:Int) (A0_2:Option Addr) (c0_2:Nat) (l0_2:List (S42)) (a1:Int) (r:List Int) (w:World) (hr0_2:Kd.C k42 w A0_2 l0_2.length l0_2) (hc0_2:l0_2.length ≤ c0_2) (h:impl_besideOf.f k a0_0 a0_1 l0_2 a1 = some r) :
    Calls Try.prog 207 #[.agg #[.int .i64 a0_0,.int .i64 a0_1,.slice A0_2 l0_2.length c0_2],.int .i64 a1] w fun e w'=>∃ v0_:Value,e = .returned (v0_)∧Kd.R (Kd.int .i64) 3 w' w.heap.size (fun _=>True) v0_ r∧Below w.heap.size w w':=by
 have S:=St.init (w:=w) (dc k42_heap at42 hr0_2 hc0_2 dn)
 clear hr0_2 hc0_2
 have F:=S.fc
 have H:=h;clear h;unfold impl_besideOf.f at H
 (first | (with_reducible replace H:=ob_ H;obtain ⟨y478,hy478,H⟩:=H;(try dsimp only at H)) | (obtain ⟨y478,hy478⟩:∃ y_:List Int,y_ = (([]:List Int)):=⟨_,rfl⟩;(try rw [← hy478] at H);(try simp only [Option.bind_some] at H)));have Ny478:=Aside0.mk hy478;clear hy478
 replace H:=nn_ H;obtain ⟨c3,H⟩:=H
 replace c3:=cne c3
 go_enter Try.func207,Try.ntmps207
 go_upto_if 18 with (first | ((with_reducible refine gd 2 rfl (L ?_));refine bo 2 (.agg #[_,_,_]) S ?_;clear S F;intro gb477 W S;have F:=S.fc) | ((with_reducible refine gd 8 rfl (L ?_));refine lia 8 (atI .i64) 3 S ([]:List Int) (fun _ _=>(Reps.none _ _)) (by first | (go_simp;done) | (go_simp;rfl)) ?_;clear S F;intro Ay478 cy478 W S;(try rw [← Ny478.out] at S ⊢);have F:=S.fc))
 go_upto_if 18 with (first | ((with_reducible refine gd 2 rfl (L ?_));refine bo 2 (.agg #[_,_,_]) S ?_;clear S F;intro gb477 W S;have F:=S.fc) | ((with_reducible refine gd 8 rfl (L ?_));refine lia 8 (atI .i64) 3 S ([]:List Int) (fun _ _=>(Reps.none _ _)) (by first | (go_simp;done) | (go_simp;rfl)) ?_;clear S F;intro Ay478 cy478 W S;(try rw [← Ny478.out] at S ⊢);have F:=S.fc) | ((with_reducible refine gd 2 rfl (L ?_));refine bo 2 (.agg #[_,_,_]) S ?_;clear S F;intro gb477 W S;have F:=S.fc) | ((with_reducible refine gd 8 rfl (L ?_));refine lia 8 (atI .i64) 3 S ([]:List Int) (fun _ _=>(Reps.none _ _)) (by first | (go_simp;done) | (go_simp;rfl)) ?_;clear S F;intro Ay478 cy478 W S;(try rw [← Ny478.out] at S ⊢);have F:=S.fc) | ((refine rq (id:=2) S [(0,0),(0,1),(0,4),(0,5),(1,2),(0,3),(0,8),(1,6),(0,7),(0,9)] [] (h:=?_);clear S F;intro W S;have S0:=S;have F:=S.fc)) | (refine q0 (h:=?_)) | (refine q1 S0 (h:=?_)) | (refine q0n (h:=?_)) | (refine q1n S0 (h:=?_)) | refine oz ?_)
 (try simp only [Act.put,List.setIfInBounds_toArray,List.set_cons_zero,List.set_cons_succ])
 go_cut [5] (fun v5 wc=>∃ (kq:Nat) (x5_3:List Int) (Ax5_3:Option Addr) (cx5_3:Nat),v5 = .slice Ax5_3 x5_3.length cx5_3∧impl_besideOf.j0 kq a1 x5_3 (wrap64 (Int.tdiv a1 a0_1)) (Int.tmod a1 a0_1) a0_0 a0_1 l0_2 = some r∧kq ≤ k∧St w w (fun _=>False) [bor at42 A0_2 c0_2 l0_2] wc  [row (atI .i64) 3 Ax5_3 x5_3.length cx5_3 x5_3,box gb477 30 [.int .i64 a0_0,.int .i64 a0_1,.slice A0_2 l0_2.length c0_2]])
 case first =>
  replace H:=sp_ H;rcases H with ⟨c9,H⟩ | ⟨c9,H⟩
  · skip
    replace H:=np_ H;obtain ⟨c10,H⟩:=H
    (first | (with_reducible replace H:=ob_ H;obtain ⟨y481,hy481,H⟩:=H;(try dsimp only at H)) | (obtain ⟨y481,hy481⟩:∃ y_:List Int,y_ = (y478 ++ [wrap64 (a1 - a0_1)]):=⟨_,rfl⟩;(try rw [← hy481] at H);(try simp only [Option.bind_some] at H)));have Ny481:=Aside0.mk hy481;clear hy481
    go_wp2_with (first | ((with_reducible refine gd 25 rfl (L ?_));refine apa (A:=Ay478) 25 S Try.underlying25 info3 ?_ (ho:=rfl) (hs:=rfl) (hx:=rfl);clear S F;intro Ay481 cy481 W S;(try rw [← Ny481.out] at S ⊢);have F:=S.fc))
    go_wp2_with (first | ((with_reducible refine gd 25 rfl (L ?_));refine apa (A:=Ay478) 25 S Try.underlying25 info3 ?_ (ho:=rfl) (hs:=rfl) (hx:=rfl);clear S F;intro Ay481 cy481 W S;(try rw [← Ny481.out] at S ⊢);have F:=S.fc) | ((with_reducible refine gd 25 rfl (L ?_));refine apa (A:=Ay478) 25 S Try.underlying25 info3 ?_ (ho:=rfl) (hs:=rfl) (hx:=rfl);clear S F;intro Ay481 cy481 W S;(try rw [← Ny481.out] at S ⊢);have F:=S.fc) | ((refine rq (id:=2) S [(0,0),(0,1),(0,4),(0,5),(1,2),(0,3),(0,8),(1,6),(0,7),(0,9)] [] (h:=?_);clear S F;intro W S;have S0:=S;have F:=S.fc)) | (refine q0 (h:=?_)) | (refine q1 S0 (h:=?_)) | (refine q0n (h:=?_)) | (refine q1n S0 (h:=?_)) | refine oz ?_)
    go_meet
    case rel=>exact ⟨_,y481,_,_,rfl,H,(by first | omega | exact Nat.le_refl _),S⟩
  · skip
    go_wp2
    go_wp2_with (first | ((refine rq (id:=2) S [(0,0),(0,1),(0,4),(0,5),(1,2),(0,3),(0,8),(1,6),(0,7),(0,9)] [] (h:=?_);clear S F;intro W S;have S0:=S;have F:=S.fc)) | (refine q0 (h:=?_)) | (refine q1 S0 (h:=?_)) | (refine q0n (h:=?_)) | (refine q1n S0 (h:=?_)) | refine oz ?_)
    go_meet
    case rel=>exact ⟨_,y478,_,_,rfl,H,(by first | omega | exact Nat.le_refl _),S⟩
 case rest =>
  clear H S F
  obtain ⟨kq,x5_3,Ax5_3,cx5_3,rfl,HA,HJ3,S⟩:=hcut
  have F:=S.fc
  cases kq with
  | zero=>exact absurd HA (by simp [impl_besideOf.j0])
  | succ kj3 =>
   have H:=HA;clear HA;simp only [impl_besideOf.j0,F] at H
   go_upto_if 27 with (fail)
   go_upto_if 27 with (first | ((refine rq (id:=2) S [(0,0),(0,1),(0,4),(0,5),(1,2),(0,3),(0,8),(1,6),(0,7),(0,9)] [] (h:=?_);clear S F;intro W S;have S0:=S;have F:=S.fc)) | (refine q0 (h:=?_)) | (refine q1 S0 (h:=?_)) | (refine q0n (h:=?_)) | (refine q1n S0 (h:=?_)) | refine oz ?_)
   go_cut [5] (fun v5 wc=>∃ (kq:Nat) (x5_12:List Int) (Ax5_12:Option Addr) (cx5_12:Nat),v5 = .slice Ax5_12 x5_12.length cx5_12∧impl_besideOf.j1 kq a1 x5_12 (wrap64 (Int.tdiv a1 a0_1)) (Int.tmod a1 a0_1) a0_0 a0_1 l0_2 = some r∧kq ≤ kj3∧St w w (fun _=>False) [bor at42 A0_2 c0_2 l0_2] wc  [row (atI .i64) 3 Ax5_12 x5_12.length cx5_12 x5_12,box gb477 30 [.int .i64 a0_0,.int .i64 a0_1,.slice A0_2 l0_2.length c0_2]])
   case first =>
    replace H:=sp_ H;rcases H with ⟨c14,H⟩ | ⟨c14,H⟩
    · skip
      replace H:=np_ H;obtain ⟨c15,H⟩:=H
      (first | (with_reducible replace H:=ob_ H;obtain ⟨y484,hy484,H⟩:=H;(try dsimp only at H)) | (obtain ⟨y484,hy484⟩:∃ y_:List Int,y_ = (x5_3 ++ [wrap64 (a1 - 1)]):=⟨_,rfl⟩;(try rw [← hy484] at H);(try simp only [Option.bind_some] at H)));have Ny484:=Aside0.mk hy484;clear hy484
      go_wp2_with (first | ((with_reducible refine gd 32 rfl (L ?_));refine apa (A:=Ax5_3) 32 S Try.underlying25 info3 ?_ (ho:=rfl) (hs:=rfl) (hx:=rfl);clear S F;intro Ay484 cy484 W S;(try rw [← Ny484.out] at S ⊢);have F:=S.fc))
      go_wp2_with (first | ((with_reducible refine gd 32 rfl (L ?_));refine apa (A:=Ax5_3) 32 S Try.underlying25 info3 ?_ (ho:=rfl) (hs:=rfl) (hx:=rfl);clear S F;intro Ay484 cy484 W S;(try rw [← Ny484.out] at S ⊢);have F:=S.fc) | ((with_reducible refine gd 32 rfl (L ?_));refine apa (A:=Ax5_3) 32 S Try.underlying25 info3 ?_ (ho:=rfl) (hs:=rfl) (hx:=rfl);clear S F;intro Ay484 cy484 W S;(try rw [← Ny484.out] at S ⊢);have F:=S.fc) | ((refine rq (id:=2) S [(0,0),(0,1),(0,4),(0,5),(1,2),(0,3),(0,8),(1,6),(0,7),(0,9)] [] (h:=?_);clear S F;intro W S;have S0:=S;have F:=S.fc)) | (refine q0 (h:=?_)) | (refine q1 S0 (h:=?_)) | (refine q0n (h:=?_)) | (refine q1n S0 (h:=?_)) | refine oz ?_)
      go_meet
      case rel=>exact ⟨_,y484,_,_,rfl,H,(by first | omega | exact Nat.le_refl _),S⟩
    · skip
      go_wp2
      go_wp2_with (first | ((refine rq (id:=2) S [(0,0),(0,1),(0,4),(0,5),(1,2),(0,3),(0,8),(1,6),(0,7),(0,9)] [] (h:=?_);clear S F;intro W S;have S0:=S;have F:=S.fc)) | (refine q0 (h:=?_)) | (refine q1 S0 (h:=?_)) | (refine q0n (h:=?_)) | (refine q1n S0 (h:=?_)) | refine oz ?_)
      go_meet
      case rel=>exact ⟨_,x5_3,_,_,rfl,H,(by first | omega | exact Nat.le_refl _),S⟩
   case rest =>
    clear H S F
    obtain ⟨kq,x5_12,Ax5_12,cx5_12,rfl,HA,HJ12,S⟩:=hcut
    have F:=S.fc
    cases kq with
    | zero=>exact absurd HA (by simp [impl_besideOf.j1])
    | succ kj12 =>
     have H:=HA;clear HA;simp only [impl_besideOf.j1,F] at H
     replace H:=sp_ H;rcases H with ⟨c17,H⟩ | ⟨c17,H⟩
     · skip
       replace H:=np_ H;obtain ⟨c18,H⟩:=H
       (first | (with_reducible replace H:=ob_ H;obtain ⟨y487,hy487,H⟩:=H;(try dsimp only at H)) | (obtain ⟨y487,hy487⟩:∃ y_:List Int,y_ = (x5_12 ++ [wrap64 (a1 + 1)]):=⟨_,rfl⟩;(try rw [← hy487] at H);(try simp only [Option.bind_some] at H)));have Ny487:=Aside0.mk hy487;clear hy487
       replace H:=sp_ H;rcases H with ⟨c19,H⟩ | ⟨c19,H⟩
       · skip
         replace H:=np_ H;obtain ⟨c20,H⟩:=H
         (first | (with_reducible replace H:=ob_ H;obtain ⟨y490,hy490,H⟩:=H;(try dsimp only at H)) | (obtain ⟨y490,hy490⟩:∃ y_:List Int,y_ = (y487 ++ [wrap64 (a1 + a0_1)]):=⟨_,rfl⟩;(try rw [← hy490] at H);(try simp only [Option.bind_some] at H)));have Ny490:=Aside0.mk hy490;clear hy490
         obtain rfl:=Option.some.inj H
         go_wp2_with (first | ((with_reducible refine gd 42 rfl (L ?_));refine apa (A:=Ax5_12) 42 S Try.underlying25 info3 ?_ (ho:=rfl) (hs:=rfl) (hx:=rfl);clear S F;intro Ay487 cy487 W S;(try rw [← Ny487.out] at S ⊢);(try rw [← Ny490.out] at S ⊢);have F:=S.fc) | ((with_reducible refine gd 54 rfl (L ?_));refine apa (A:=Ay487) 54 S Try.underlying25 info3 ?_ (ho:=rfl) (hs:=rfl) (hx:=rfl);clear S F;intro Ay490 cy490 W S;(try rw [← Ny487.out] at S ⊢);(try rw [← Ny490.out] at S ⊢);have F:=S.fc))
         go_wp2_with (first | ((with_reducible refine gd 42 rfl (L ?_));refine apa (A:=Ax5_12) 42 S Try.underlying25 info3 ?_ (ho:=rfl) (hs:=rfl) (hx:=rfl);clear S F;intro Ay487 cy487 W S;(try rw [← Ny487.out] at S ⊢);(try rw [← Ny490.out] at S ⊢);have F:=S.fc) | ((with_reducible refine gd 54 rfl (L ?_));refine apa (A:=Ay487) 54 S Try.underlying25 info3 ?_ (ho:=rfl) (hs:=rfl) (hx:=rfl);clear S F;intro Ay490 cy490 W S;(try rw [← Ny487.out] at S ⊢);(try rw [← Ny490.out] at S ⊢);have F:=S.fc) | ((with_reducible refine gd 42 rfl (L ?_));refine apa (A:=Ax5_12) 42 S Try.underlying25 info3 ?_ (ho:=rfl) (hs:=rfl) (hx:=rfl);clear S F;intro Ay487 cy487 W S;(try rw [← Ny487.out] at S ⊢);(try rw [← Ny490.out] at S ⊢);have F:=S.fc) | ((with_reducible refine gd 54 rfl (L ?_));refine apa (A:=Ay487) 54 S Try.underlying25 info3 ?_ (ho:=rfl) (hs:=rfl) (hx:=rfl);clear S F;intro Ay490 cy490 W S;(try rw [← Ny487.out] at S ⊢);(try rw [← Ny490.out] at S ⊢);have F:=S.fc) | ((refine rq (id:=2) S [(0,0),(0,1),(0,4),(0,5),(1,2),(0,3),(0,8),(1,6),(0,7),(0,9)] [] (h:=?_);clear S F;intro W S;have S0:=S;have F:=S.fc)) | (refine q0 (h:=?_)) | (refine q1 S0 (h:=?_)) | (refine q0n (h:=?_)) | (refine q1n S0 (h:=?_)) | refine oz ?_)
         go_ret
         exact ⟨_,(by first | rfl | (simp [e0_,e1_] <;> rfl) | (simp [*,e0_,e1_] <;> rfl)),(by first | exact S.r | exact Kd.R_nil _ _ _ _ _),S.below⟩
       · skip
         obtain rfl:=Option.some.inj H
         go_wp2_with (first | ((with_reducible refine gd 42 rfl (L ?_));refine apa (A:=Ax5_12) 42 S Try.underlying25 info3 ?_ (ho:=rfl) (hs:=rfl) (hx:=rfl);clear S F;intro Ay487 cy487 W S;(try rw [← Ny487.out] at S ⊢);have F:=S.fc))
         go_wp2_with (first | ((with_reducible refine gd 42 rfl (L ?_));refine apa (A:=Ax5_12) 42 S Try.underlying25 info3 ?_ (ho:=rfl) (hs:=rfl) (hx:=rfl);clear S F;intro Ay487 cy487 W S;(try rw [← Ny487.out] at S ⊢);have F:=S.fc) | ((with_reducible refine gd 42 rfl (L ?_));refine apa (A:=Ax5_12) 42 S Try.underlying25 info3 ?_ (ho:=rfl) (hs:=rfl) (hx:=rfl);clear S F;intro Ay487 cy487 W S;(try rw [← Ny487.out] at S ⊢);have F:=S.fc) | ((refine rq (id:=2) S [(0,0),(0,1),(0,4),(0,5),(1,2),(0,3),(0,8),(1,6),(0,7),(0,9)] [] (h:=?_);clear S F;intro W S;have S0:=S;have F:=S.fc)) | (refine q0 (h:=?_)) | (refine q1 S0 (h:=?_)) | (refine q0n (h:=?_)) | (refine q1n S0 (h:=?_)) | refine oz ?_)
         go_ret
         exact ⟨_,(by first | rfl | (simp [e0_,e1_] <;> rfl) | (simp [*,e0_,e1_] <;> rfl)),(by first | exact S.r | exact Kd.R_nil _ _ _ _ _),S.below⟩
     · skip
       replace H:=sp_ H;rcases H with ⟨c28,H⟩ | ⟨c28,H⟩
       · skip
         replace H:=np_ H;obtain ⟨c29,H⟩:=H
         (first | (with_reducible replace H:=ob_ H;obtain ⟨y493,hy493,H⟩:=H;(try dsimp only at H)) | (obtain ⟨y493,hy493⟩:∃ y_:List Int,y_ = (x5_12 ++ [wrap64 (a1 + a0_1)]):=⟨_,rfl⟩;(try rw [← hy493] at H);(try simp only [Option.bind_some] at H)));have Ny493:=Aside0.mk hy493;clear hy493
         obtain rfl:=Option.some.inj H
         go_wp2_with (first | ((with_reducible refine gd 54 rfl (L ?_));refine apa (A:=Ax5_12) 54 S Try.underlying25 info3 ?_ (ho:=rfl) (hs:=rfl) (hx:=rfl);clear S F;intro Ay493 cy493 W S;(try rw [← Ny493.out] at S ⊢);have F:=S.fc))
         go_wp2_with (first | ((with_reducible refine gd 54 rfl (L ?_));refine apa (A:=Ax5_12) 54 S Try.underlying25 info3 ?_ (ho:=rfl) (hs:=rfl) (hx:=rfl);clear S F;intro Ay493 cy493 W S;(try rw [← Ny493.out] at S ⊢);have F:=S.fc) | ((with_reducible refine gd 54 rfl (L ?_));refine apa (A:=Ax5_12) 54 S Try.underlying25 info3 ?_ (ho:=rfl) (hs:=rfl) (hx:=rfl);clear S F;intro Ay493 cy493 W S;(try rw [← Ny493.out] at S ⊢);have F:=S.fc) | ((refine rq (id:=2) S [(0,0),(0,1),(0,4),(0,5),(1,2),(0,3),(0,8),(1,6),(0,7),(0,9)] [] (h:=?_);clear S F;intro W S;have S0:=S;have F:=S.fc)) | (refine q0 (h:=?_)) | (refine q1 S0 (h:=?_)) | (refine q0n (h:=?_)) | (refine q1n S0 (h:=?_)) | refine oz ?_)
         go_ret
         exact ⟨_,(by first | rfl | (simp [e0_,e1_] <;> rfl) | (simp [*,e0_,e1_] <;> rfl)),(by first | exact S.r | exact Kd.R_nil _ _ _ _ _),S.below⟩
       · skip
         obtain rfl:=Option.some.inj H
         go_wp2
         go_wp2_with (first | ((refine rq (id:=2) S [(0,0),(0,1),(0,4),(0,5),(1,2),(0,3),(0,8),(1,6),(0,7),(0,9)] [] (h:=?_);clear S F;intro W S;have S0:=S;have F:=S.fc)) | (refine q0 (h:=?_)) | (refine q1 S0 (h:=?_)) | (refine q0n (h:=?_)) | (refine q1n S0 (h:=?_)) | refine oz ?_)
         go_ret
         exact ⟨_,(by first | rfl | (simp [e0_,e1_] <;> rfl) | (simp [*,e0_,e1_] <;> rfl)),(by first | exact S.r | exact Kd.R_nil _ _ _ _ _),S.below⟩
end Go.Proofs.Ytnmffpfiichjgaa.F
