-- Printed by a program; checked here.
import Derived.Test.YtipaimgpmgbkiaaProg
import Derived.Below
import Derived.Deep.Draws
import Derived.Deep.AppendLies
import Derived.Maps.AppendAt
import Derived.OwnWalk
import Derived.Laws.BytesArg
import Derived.Laws.MakeOwn
import Derived.Laws.OwnMore
import Derived.Deep.OwnRows
import Derived.Tactics
import Derived.Lib.ConvBytes
import Derived.Laws.Slices
import Derived.WalkKit
import Derived.KernelRfl
import Derived.RowKit3
import Derived.Deep.LoopGhost
import Derived.Deep.QuietTactic
import Derived.BigQuiet
import Derived.WideLaws
import Derived.Deep.DeepCutAuto
import Derived.Deep.CutBlock
import Derived.Deep.RegionHeld3
import Derived.Laws.Rows
import Derived.Lib.AppendStr
import Derived.ArgAppend
import Derived.Laws.IdiomCopy
import Derived.OrdersHeld
import Derived.Laws.BitsLemmas
import Derived.RowKit
import Derived.Test.YtipaimgpmgbkiaaVWords
import Derived.Test.YtipaimgpmgbkiaaVLast
import Derived.Test.YtipaimgpmgbkiaaVTab
import Derived.Test.YtipaimgpmgbkiaaVFour
import Derived.Test.YtipaimgpmgbkiaaVQPut
import Derived.Test.YtipaimgpmgbkiaaVApart
import Derived.Test.YtipaimgpmgbkiaaVArr
import Derived.Test.YtipaimgpmgbkiaaVZeros
import Derived.Test.YtipaimgpmgbkiaaVFoot
import Derived.Test.YtipaimgpmgbkiaaVKept
import Derived.Test.YtipaimgpmgbkiaaVShare
import Derived.Test.YtipaimgpmgbkiaaVN
import Derived.Test.YtipaimgpmgbkiaaVFootNe
import Derived.Test.YtipaimgpmgbkiaaVAt
import Derived.Test.YtipaimgpmgbkiaaVEqStruct
import Derived.Test.YtipaimgpmgbkiaaVRepsOne
import Derived.Test.YtipaimgpmgbkiaaVInv
import Derived.Test.YtipaimgpmgbkiaaVInvWords
import Derived.Test.YtipaimgpmgbkiaaVGuard
import Derived.Test.YtipaimgpmgbkiaaVNEv
import Derived.Test.YtipaimgpmgbkiaaVMore
import Derived.Test.YtipaimgpmgbkiaaVMine
import Derived.Test.YtipaimgpmgbkiaaVSl
import Derived.Test.YtipaimgpmgbkiaaVFl
import Derived.Test.YtipaimgpmgbkiaaVRf
namespace Go.Proofs.Ytipaimgpmgbkiaa.F
open Go.RowKit Go.Proofs.YtipaimgpmgbkiaaV.PrintWords Go.Proofs.YtipaimgpmgbkiaaV.PrintLast Go.Proofs.YtipaimgpmgbkiaaV.PrintMore Go.Proofs.YtipaimgpmgbkiaaV.Sl Go.Proofs.YtipaimgpmgbkiaaV.Rf
attribute [local go_sem] max2_int min2_int max_two min_two max_three min_three max_four min_four   -- for this text's walks alone
set_option linter.unusedVariables false
set_option linter.unusedSimpArgs false



def errW:Option Int→Value
 | none=>.nilIface
 | some c=>.iface 0 (.int .i64 c)
theorem e0_:errW none = .nilIface:=rfl
theorem e1_ (c:Int):errW (some c) = .iface 0 (.int .i64 c):=rfl

theorem info3:(Try.prog.info? 3).map (fun i=>(i.zero,i.size,i.bytes)) = some (some (.int .i64 0),1,8):=by kernel_rfl
theorem info4:(Try.prog.info? 4).map (fun i=>(i.zero,i.size,i.bytes)) = some (some (.bool false),1,1):=by kernel_rfl
theorem info23:(Try.prog.info? 23).map (fun i=>(i.zero,i.size,i.bytes)) = some (some (.slice none 0 0),1,24):=by kernel_rfl
theorem info50:(Try.prog.info? 50).map (fun i=>(i.zero,i.size,i.bytes)) = some (some (.agg #[(.int .i64 0),(.int .i64 0),(.slice none 0 0)]),3,40):=by kernel_rfl
theorem info88:(Try.prog.info? 88).map (fun i=>(i.zero,i.size,i.bytes)) = some (some (.agg #[(.int .i64 0),(.int .i64 0)]),2,16):=by kernel_rfl
theorem info127:(Try.prog.info? 127).map (fun i=>(i.zero,i.size,i.bytes)) = some (some (.agg #[(.int .i64 0),(.int .i64 0),(.int .i64 0)]),3,24):=by kernel_rfl
-- the values' own types
/-! #### struct type 106 -/
structure S106 where
 f0:Int
 f1:Int
def z106:S106:=⟨(0:Int),(0:Int)⟩
def k106:Kd S106:=Kd.iso (Kd.pair (Kd.int .i64) (Kd.int .i64)) (fun x:S106=>(x.f0,x.f1))
theorem k106_heap:Kd.Heap k106:=Kd.heap_iso _ (Kd.heap_pair (Kd.heap_int .i64) (Kd.heap_int .i64))
theorem k106_open {w:World} {x:S106} {cs:List Value} (h:k106.K w x cs):cs = [.int .i64 x.f0,.int .i64 x.f1]:=by
 obtain ⟨_,_,rfl,rfl,rfl⟩:=h;exact rfl
theorem k106_openM {w:World} {base:Nat} {ok:Nat→Prop} {x:S106} {cs:List Value} (h:k106.M w base ok x cs):cs = [.int .i64 x.f0,.int .i64 x.f1]:=by
 obtain ⟨_,_,rfl,rfl,rfl⟩:=h;exact rfl
theorem k106_mk (w:World) (x:S106)  : k106.K w x [.int .i64 x.f0,.int .i64 x.f1]:=⟨[.int .i64 x.f0],[.int .i64 x.f1],rfl,rfl,rfl⟩
theorem k106_mkM (w:World) (base:Nat) (ok:Nat→Prop) (x:S106)  : k106.M w base ok x [.int .i64 x.f0,.int .i64 x.f1]:=⟨[.int .i64 x.f0],[.int .i64 x.f1],rfl,rfl,rfl⟩
theorem k106_mkF (W:World) (ok:Nat→Prop) (x:S106):Kd.FK k106 W ok x [.int .i64 x.f0,.int .i64 x.f1]:=fun W2 _=>k106_mk W2 x
def rd_T106 (xs:List S106) (i:Int):S106:=xs.getD i.toNat z106
theorem at_T106 {w:World} {A:Option Addr} {n:Nat} {xs:List S106} (h:Kd.C k106 w A n xs) (i:Int) (h0:0 ≤ i) (h1:i < n):∃ ad ,A = some ad∧w.cell? (ad.add (i.toNat * 2)) = some (.int .i64 (rd_T106 xs i).f0)∧w.cell? ⟨(ad.add (i.toNat * 2)).block,(ad.add (i.toNat * 2)).off + 1,none⟩ = some (.int .i64 (rd_T106 xs i).f1):=by
 obtain ⟨ad,c,e,_,hK,hc0⟩:=Kd.C_get h z106 i h0 h1;have hc:∀ j u,c[j]? = some u→w.cell? (ad.add (i.toNat * 2 + j)) = some u:=hc0;obtain rfl:=k106_open hK;exact ⟨ad,e,hc 0 _ rfl,by rw [← add_field _ _ 1 (by omega)];exact hc 1 _ rfl⟩

/-! #### struct type 88 -/
structure S88 where
 f0:Int
 f1:Int
def z88:S88:=⟨(0:Int),(0:Int)⟩
def k88:Kd S88:=Kd.iso (Kd.pair (Kd.int .i64) (Kd.int .i64)) (fun x:S88=>(x.f0,x.f1))
theorem k88_heap:Kd.Heap k88:=Kd.heap_iso _ (Kd.heap_pair (Kd.heap_int .i64) (Kd.heap_int .i64))
theorem k88_open {w:World} {x:S88} {cs:List Value} (h:k88.K w x cs):cs = [.int .i64 x.f0,.int .i64 x.f1]:=by
 obtain ⟨_,_,rfl,rfl,rfl⟩:=h;exact rfl
theorem k88_openM {w:World} {base:Nat} {ok:Nat→Prop} {x:S88} {cs:List Value} (h:k88.M w base ok x cs):cs = [.int .i64 x.f0,.int .i64 x.f1]:=by
 obtain ⟨_,_,rfl,rfl,rfl⟩:=h;exact rfl
theorem k88_mk (w:World) (x:S88)  : k88.K w x [.int .i64 x.f0,.int .i64 x.f1]:=⟨[.int .i64 x.f0],[.int .i64 x.f1],rfl,rfl,rfl⟩
theorem k88_mkM (w:World) (base:Nat) (ok:Nat→Prop) (x:S88)  : k88.M w base ok x [.int .i64 x.f0,.int .i64 x.f1]:=⟨[.int .i64 x.f0],[.int .i64 x.f1],rfl,rfl,rfl⟩
theorem k88_mkF (W:World) (ok:Nat→Prop) (x:S88):Kd.FK k88 W ok x [.int .i64 x.f0,.int .i64 x.f1]:=fun W2 _=>k88_mk W2 x
def rd_T88 (xs:List S88) (i:Int):S88:=xs.getD i.toNat z88
theorem at_T88 {w:World} {A:Option Addr} {n:Nat} {xs:List S88} (h:Kd.C k88 w A n xs) (i:Int) (h0:0 ≤ i) (h1:i < n):∃ ad ,A = some ad∧w.cell? (ad.add (i.toNat * 2)) = some (.int .i64 (rd_T88 xs i).f0)∧w.cell? ⟨(ad.add (i.toNat * 2)).block,(ad.add (i.toNat * 2)).off + 1,none⟩ = some (.int .i64 (rd_T88 xs i).f1):=by
 obtain ⟨ad,c,e,_,hK,hc0⟩:=Kd.C_get h z88 i h0 h1;have hc:∀ j u,c[j]? = some u→w.cell? (ad.add (i.toNat * 2 + j)) = some u:=hc0;obtain rfl:=k88_open hK;exact ⟨ad,e,hc 0 _ rfl,by rw [← add_field _ _ 1 (by omega)];exact hc 1 _ rfl⟩

def rd_L3 (xs:List (List Int)) (i:Int):(List Int):=xs.getD i.toNat ([]:List Int)
theorem at_L3 {w:World} {A:Option Addr} {n:Nat} {xs:List (List Int)} (h:Kd.C (Kd.slice 3 (Kd.int .i64)) w A n xs) (i:Int) (h0:0 ≤ i) (h1:i < n):∃ ad A0 c0,A = some ad∧w.cell? (ad.add i.toNat) = some (.slice A0 (rd_L3 xs i).length c0)∧(rd_L3 xs i).length ≤ c0∧(Kd.int .i64).C w A0 (rd_L3 xs i).length (rd_L3 xs i):=by
 obtain ⟨ad,c,e,_,hK,hc0⟩:=Kd.C_get h ([]:List Int) i h0 h1;have hc:∀ j u,c[j]? = some u→w.cell? (ad.add (i.toNat * 1 + j)) = some u:=hc0;obtain ⟨A0,c0,rfl,l0,g0⟩:=hK;exact ⟨ad,A0,c0,e,by have hq:=hc 0 _ rfl;rwa [Nat.mul_one,Nat.add_zero] at hq,l0,g0⟩

def rd_L4 (xs:List (List S88)) (i:Int):(List S88):=xs.getD i.toNat ([]:List S88)
theorem at_L4 {w:World} {A:Option Addr} {n:Nat} {xs:List (List S88)} (h:Kd.C (Kd.slice 88 k88) w A n xs) (i:Int) (h0:0 ≤ i) (h1:i < n):∃ ad A0 c0,A = some ad∧w.cell? (ad.add i.toNat) = some (.slice A0 (rd_L4 xs i).length c0)∧(rd_L4 xs i).length ≤ c0∧k88.C w A0 (rd_L4 xs i).length (rd_L4 xs i):=by
 obtain ⟨ad,c,e,_,hK,hc0⟩:=Kd.C_get h ([]:List S88) i h0 h1;have hc:∀ j u,c[j]? = some u→w.cell? (ad.add (i.toNat * 1 + j)) = some u:=hc0;obtain ⟨A0,c0,rfl,l0,g0⟩:=hK;exact ⟨ad,A0,c0,e,by have hq:=hc 0 _ rfl;rwa [Nat.mul_one,Nat.add_zero] at hq,l0,g0⟩

/-! #### struct type 50 -/
structure S50 where
 f0:Int
 f1:Int
 f2:(List S88)
def z50:S50:=⟨(0:Int),(0:Int),([]:List S88)⟩
def k50:Kd S50:=Kd.iso (Kd.pair (Kd.int .i64) (Kd.pair (Kd.int .i64) (Kd.slice 88 k88))) (fun x:S50=>(x.f0,x.f1,x.f2))
theorem k50_heap:Kd.Heap k50:=Kd.heap_iso _ (Kd.heap_pair (Kd.heap_int .i64) (Kd.heap_pair (Kd.heap_int .i64) (Kd.heap_slice 88 k88_heap)))
theorem k50_open {w:World} {x:S50} {cs:List Value} (h:k50.K w x cs):∃ A2 c2,cs = [.int .i64 x.f0,.int .i64 x.f1,.slice A2 x.f2.length c2]∧x.f2.length ≤ c2∧k88.C w A2 x.f2.length x.f2:=by
 obtain ⟨_,_,rfl,rfl,⟨_,_,rfl,rfl,⟨A2,c2,rfl,l2,g2⟩⟩⟩:=h;exact ⟨A2,c2,rfl,l2,g2⟩
theorem k50_openM {w:World} {base:Nat} {ok:Nat→Prop} {x:S50} {cs:List Value} (h:k50.M w base ok x cs):∃ v2,cs = [.int .i64 x.f0,.int .i64 x.f1,v2]∧k88.R 88 w base ok v2 x.f2:=by
 obtain ⟨_,_,rfl,rfl,⟨_,_,rfl,rfl,⟨v2,rfl,g2⟩⟩⟩:=h;exact ⟨v2,rfl,g2⟩
theorem k50_mk (w:World) (x:S50) {A2:Option Addr} {c2:Nat} (l2:x.f2.length ≤ c2) (g2:k88.C w A2 x.f2.length x.f2):k50.K w x [.int .i64 x.f0,.int .i64 x.f1,.slice A2 x.f2.length c2]:=⟨[.int .i64 x.f0],[.int .i64 x.f1,.slice A2 x.f2.length c2],rfl,rfl,⟨[.int .i64 x.f1],[.slice A2 x.f2.length c2],rfl,rfl,⟨A2,c2,rfl,l2,g2⟩⟩⟩
theorem k50_mkM (w:World) (base:Nat) (ok:Nat→Prop) (x:S50) {v2:Value} (g2:k88.R 88 w base ok v2 x.f2):k50.M w base ok x [.int .i64 x.f0,.int .i64 x.f1,v2]:=⟨[.int .i64 x.f0],[.int .i64 x.f1,v2],rfl,rfl,⟨[.int .i64 x.f1],[v2],rfl,rfl,⟨v2,rfl,g2⟩⟩⟩
theorem k50_openF {W:World} {ok:Nat→Prop} {x:S50} {cs:List Value} (h:Kd.FK k50 W ok x cs):∃ A2 c2,cs = [.int .i64 x.f0,.int .i64 x.f1,.slice A2 x.f2.length c2]∧x.f2.length ≤ c2∧Kd.F k88 W ok A2 x.f2.length x.f2:=by
 obtain ⟨A2,c2,rfl,l2,_⟩:=k50_open (Kd.FK_now h);exact ⟨A2,c2,rfl,l2,(fun W' hW=>by obtain ⟨A2_,c2_,he,l2_,g2_⟩:=k50_open (h W' hW);injection (Option.some.inj (show some (Value.slice A2 x.f2.length c2) = some (Value.slice A2_ x.f2.length c2_) from congrArg (fun l=>l[2]?) he)) with ha_ _ _;rw [ha_];exact g2_)⟩
theorem k50_mkF (W:World) (ok:Nat→Prop) (x:S50) {A2:Option Addr} {c2:Nat} (l2:x.f2.length ≤ c2) (g2:Kd.F k88 W ok A2 x.f2.length x.f2):Kd.FK k50 W ok x [.int .i64 x.f0,.int .i64 x.f1,.slice A2 x.f2.length c2]:=fun W2 hW=>k50_mk W2 x l2 (g2 W2 hW)
def rd_T50 (xs:List S50) (i:Int):S50:=xs.getD i.toNat z50
theorem at_T50 {w:World} {A:Option Addr} {n:Nat} {xs:List S50} (h:Kd.C k50 w A n xs) (i:Int) (h0:0 ≤ i) (h1:i < n):∃ ad A2 c2,A = some ad∧w.cell? (ad.add (i.toNat * 3)) = some (.int .i64 (rd_T50 xs i).f0)∧w.cell? ⟨(ad.add (i.toNat * 3)).block,(ad.add (i.toNat * 3)).off + 1,none⟩ = some (.int .i64 (rd_T50 xs i).f1)∧w.cell? ⟨(ad.add (i.toNat * 3)).block,(ad.add (i.toNat * 3)).off + 2,none⟩ = some (.slice A2 (rd_T50 xs i).f2.length c2)∧(rd_T50 xs i).f2.length ≤ c2∧k88.C w A2 (rd_T50 xs i).f2.length (rd_T50 xs i).f2:=by
 obtain ⟨ad,c,e,_,hK,hc0⟩:=Kd.C_get h z50 i h0 h1;have hc:∀ j u,c[j]? = some u→w.cell? (ad.add (i.toNat * 3 + j)) = some u:=hc0;obtain ⟨A2,c2,rfl,l2,g2⟩:=k50_open hK;exact ⟨ad,A2,c2,e,hc 0 _ rfl,by rw [← add_field _ _ 1 (by omega)];exact hc 1 _ rfl,by rw [← add_field _ _ 2 (by omega)];exact hc 2 _ rfl,l2,g2⟩

/-! #### struct type 127 -/
structure S127 where
 f0:Int
 f1:Int
 f2:Int
def z127:S127:=⟨(0:Int),(0:Int),(0:Int)⟩
def k127:Kd S127:=Kd.iso (Kd.pair (Kd.int .i64) (Kd.pair (Kd.int .i64) (Kd.int .i64))) (fun x:S127=>(x.f0,x.f1,x.f2))
theorem k127_heap:Kd.Heap k127:=Kd.heap_iso _ (Kd.heap_pair (Kd.heap_int .i64) (Kd.heap_pair (Kd.heap_int .i64) (Kd.heap_int .i64)))
theorem k127_open {w:World} {x:S127} {cs:List Value} (h:k127.K w x cs):cs = [.int .i64 x.f0,.int .i64 x.f1,.int .i64 x.f2]:=by
 obtain ⟨_,_,rfl,rfl,⟨_,_,rfl,rfl,rfl⟩⟩:=h;exact rfl
theorem k127_openM {w:World} {base:Nat} {ok:Nat→Prop} {x:S127} {cs:List Value} (h:k127.M w base ok x cs):cs = [.int .i64 x.f0,.int .i64 x.f1,.int .i64 x.f2]:=by
 obtain ⟨_,_,rfl,rfl,⟨_,_,rfl,rfl,rfl⟩⟩:=h;exact rfl
theorem k127_mk (w:World) (x:S127)  : k127.K w x [.int .i64 x.f0,.int .i64 x.f1,.int .i64 x.f2]:=⟨[.int .i64 x.f0],[.int .i64 x.f1,.int .i64 x.f2],rfl,rfl,⟨[.int .i64 x.f1],[.int .i64 x.f2],rfl,rfl,rfl⟩⟩
theorem k127_mkM (w:World) (base:Nat) (ok:Nat→Prop) (x:S127)  : k127.M w base ok x [.int .i64 x.f0,.int .i64 x.f1,.int .i64 x.f2]:=⟨[.int .i64 x.f0],[.int .i64 x.f1,.int .i64 x.f2],rfl,rfl,⟨[.int .i64 x.f1],[.int .i64 x.f2],rfl,rfl,rfl⟩⟩
theorem k127_mkF (W:World) (ok:Nat→Prop) (x:S127):Kd.FK k127 W ok x [.int .i64 x.f0,.int .i64 x.f1,.int .i64 x.f2]:=fun W2 _=>k127_mk W2 x
def rd_T127 (xs:List S127) (i:Int):S127:=xs.getD i.toNat z127
theorem at_T127 {w:World} {A:Option Addr} {n:Nat} {xs:List S127} (h:Kd.C k127 w A n xs) (i:Int) (h0:0 ≤ i) (h1:i < n):∃ ad ,A = some ad∧w.cell? (ad.add (i.toNat * 3)) = some (.int .i64 (rd_T127 xs i).f0)∧w.cell? ⟨(ad.add (i.toNat * 3)).block,(ad.add (i.toNat * 3)).off + 1,none⟩ = some (.int .i64 (rd_T127 xs i).f1)∧w.cell? ⟨(ad.add (i.toNat * 3)).block,(ad.add (i.toNat * 3)).off + 2,none⟩ = some (.int .i64 (rd_T127 xs i).f2):=by
 obtain ⟨ad,c,e,_,hK,hc0⟩:=Kd.C_get h z127 i h0 h1;have hc:∀ j u,c[j]? = some u→w.cell? (ad.add (i.toNat * 3 + j)) = some u:=hc0;obtain rfl:=k127_open hK;exact ⟨ad,e,hc 0 _ rfl,by rw [← add_field _ _ 1 (by omega)];exact hc 1 _ rfl,by rw [← add_field _ _ 2 (by omega)];exact hc 2 _ rfl⟩

def at106:At k106 where
 F w A xs:=∀ i:Int,0 ≤ i→i < xs.length→w.cell? ((adr A).add (i.toNat * 2)) = some (.int .i64 (rd_T106 xs i).f0)∧w.cell? ⟨((adr A).add (i.toNat * 2)).block,((adr A).add (i.toNat * 2)).off + 1,none⟩ = some (.int .i64 (rd_T106 xs i).f1)
 h hC i h0 h1:=by obtain ⟨ad,e,h⟩:=at_T106 hC i h0 h1;rw [e];exact h
instance {w:World} {A:Option Addr} {xs:List S106}:AtF at106 w A xs (∀ i:Int,0 ≤ i→i < xs.length→w.cell? ((adr A).add (i.toNat * 2)) = some (.int .i64 (rd_T106 xs i).f0)∧w.cell? ⟨((adr A).add (i.toNat * 2)).block,((adr A).add (i.toNat * 2)).off + 1,none⟩ = some (.int .i64 (rd_T106 xs i).f1)):=⟨id⟩
theorem Wr106_0 (x:S106) (y:Int):Wr k106 x 0 [.int .i64 y] ⟨y,x.f1⟩:=by
 intro W base ok c h;obtain rfl:=k106_openM h;exact ⟨Nat.le_of_ble_eq_true rfl,k106_mkM _ _ _ ⟨y,x.f1⟩⟩
theorem Wr106_1 (x:S106) (y:Int):Wr k106 x 1 [.int .i64 y] ⟨x.f0,y⟩:=by
 intro W base ok c h;obtain rfl:=k106_openM h;exact ⟨Nat.le_of_ble_eq_true rfl,k106_mkM _ _ _ ⟨x.f0,y⟩⟩
instance:KM k106:=⟨fun w x cs h W base=>by obtain rfl:=k106_open h;exact k106_mkM _ _ _ x⟩
instance:Dz k106 z106:=⟨trivial⟩
theorem gd106 (x:List S106) (i:Int):x.getD i.toNat z106 = rd_T106 x i:=rfl
instance:Zr k106 [.int .i64 0,.int .i64 0] z106:=⟨fun _ _=>k106_mkM _ _ _ z106⟩
instance {y0:Int} { y1:Int}:MkM k106 [.int .i64 y0,.int .i64 y1] ⟨y0,y1⟩:=⟨fun _ _=>k106_mkM _ _ _ ⟨y0,y1⟩⟩
instance {x:S106} {y:Int}:WrC k106 x 0 [.int .i64 y] ⟨y,x.f1⟩:=⟨Wr106_0 x y⟩
instance {x:S106} {y:Int}:WrC k106 x 1 [.int .i64 y] ⟨x.f0,y⟩:=⟨Wr106_1 x y⟩
theorem Wr106 (x y:S106):Wr k106 x 0 [.int .i64 y.f0,.int .i64 y.f1] y:=by
 intro W base ok c h;obtain rfl:=k106_openM h;exact ⟨Nat.le_of_ble_eq_true rfl,k106_mkM _ _ _ y⟩
instance {x:S106} {y0:Int} { y1:Int}:WrC k106 x 0 [.int .i64 y0,.int .i64 y1] ⟨y0,y1⟩:=⟨Wr106 x ⟨y0,y1⟩⟩
def at88:At k88 where
 F w A xs:=∀ i:Int,0 ≤ i→i < xs.length→w.cell? ((adr A).add (i.toNat * 2)) = some (.int .i64 (rd_T88 xs i).f0)∧w.cell? ⟨((adr A).add (i.toNat * 2)).block,((adr A).add (i.toNat * 2)).off + 1,none⟩ = some (.int .i64 (rd_T88 xs i).f1)
 h hC i h0 h1:=by obtain ⟨ad,e,h⟩:=at_T88 hC i h0 h1;rw [e];exact h
instance {w:World} {A:Option Addr} {xs:List S88}:AtF at88 w A xs (∀ i:Int,0 ≤ i→i < xs.length→w.cell? ((adr A).add (i.toNat * 2)) = some (.int .i64 (rd_T88 xs i).f0)∧w.cell? ⟨((adr A).add (i.toNat * 2)).block,((adr A).add (i.toNat * 2)).off + 1,none⟩ = some (.int .i64 (rd_T88 xs i).f1)):=⟨id⟩
theorem Wr88_0 (x:S88) (y:Int):Wr k88 x 0 [.int .i64 y] ⟨y,x.f1⟩:=by
 intro W base ok c h;obtain rfl:=k88_openM h;exact ⟨Nat.le_of_ble_eq_true rfl,k88_mkM _ _ _ ⟨y,x.f1⟩⟩
theorem Wr88_1 (x:S88) (y:Int):Wr k88 x 1 [.int .i64 y] ⟨x.f0,y⟩:=by
 intro W base ok c h;obtain rfl:=k88_openM h;exact ⟨Nat.le_of_ble_eq_true rfl,k88_mkM _ _ _ ⟨x.f0,y⟩⟩
instance:KM k88:=⟨fun w x cs h W base=>by obtain rfl:=k88_open h;exact k88_mkM _ _ _ x⟩
instance:Dz k88 z88:=⟨trivial⟩
theorem gd88 (x:List S88) (i:Int):x.getD i.toNat z88 = rd_T88 x i:=rfl
instance:Zr k88 [.int .i64 0,.int .i64 0] z88:=⟨fun _ _=>k88_mkM _ _ _ z88⟩
instance {y0:Int} { y1:Int}:MkM k88 [.int .i64 y0,.int .i64 y1] ⟨y0,y1⟩:=⟨fun _ _=>k88_mkM _ _ _ ⟨y0,y1⟩⟩
instance {x:S88} {y:Int}:WrC k88 x 0 [.int .i64 y] ⟨y,x.f1⟩:=⟨Wr88_0 x y⟩
instance {x:S88} {y:Int}:WrC k88 x 1 [.int .i64 y] ⟨x.f0,y⟩:=⟨Wr88_1 x y⟩
theorem Wr88 (x y:S88):Wr k88 x 0 [.int .i64 y.f0,.int .i64 y.f1] y:=by
 intro W base ok c h;obtain rfl:=k88_openM h;exact ⟨Nat.le_of_ble_eq_true rfl,k88_mkM _ _ _ y⟩
instance {x:S88} {y0:Int} { y1:Int}:WrC k88 x 0 [.int .i64 y0,.int .i64 y1] ⟨y0,y1⟩:=⟨Wr88 x ⟨y0,y1⟩⟩
theorem inn50 {b0 w0 w:World} {P:Nat→Prop} {D:List (World→Prop)} {G:List Pc} {at0:At k50} {A:Option Addr} {c:Nat} (S:St b0 w0 P D w G) (xs:List S50) [hB:HasBor D at0 xs A c] (at_2:At k88) (i:Int) (h0:0 ≤ i:=by first | assumption | omega) (h1:i < xs.length:=by first | assumption | omega):∃ A2 c2,St b0 w0 P (bcell ((adr A).add (i.toNat * 3)) (.int .i64 (rd_T50 xs i).f0) :: bcell (⟨((adr A).add (i.toNat * 3)).block,((adr A).add (i.toNat * 3)).off + 1,none⟩) (.int .i64 (rd_T50 xs i).f1) :: bcell (⟨((adr A).add (i.toNat * 3)).block,((adr A).add (i.toNat * 3)).off + 2,none⟩) (.slice A2 (rd_T50 xs i).f2.length c2) :: bor at_2 A2 c2 (rd_T50 xs i).f2 :: D) w G:=by
 obtain ⟨cs,hK,h⟩:=S.el xs (Nat.le_of_ble_eq_true rfl) z50 i h0 h1
 obtain ⟨A2,c2,e,_⟩:=k50_open hK
 subst e
 refine ⟨A2,c2,h [bcell ((adr A).add (i.toNat * 3)) (.int .i64 (rd_T50 xs i).f0),bcell (⟨((adr A).add (i.toNat * 3)).block,((adr A).add (i.toNat * 3)).off + 1,none⟩) (.int .i64 (rd_T50 xs i).f1),bcell (⟨((adr A).add (i.toNat * 3)).block,((adr A).add (i.toNat * 3)).off + 2,none⟩) (.slice A2 (rd_T50 xs i).f2.length c2),bor at_2 A2 c2 (rd_T50 xs i).f2] (fun q hq W hW=>?_)⟩
 simp only [List.mem_cons,List.not_mem_nil,or_false] at hq
 rcases hq with rfl | rfl | rfl | rfl
 · exact (by have:=hW.2 0 _ rfl;rwa [show ∀ a:Addr,a.add 0 = a from fun a=>rfl] at this)
 · exact hW.2 1 _ rfl
 · exact hW.2 2 _ rfl
 · obtain ⟨zA2,zc2,e,hh⟩:=k50_open hW.1
   have e2:=congrArg (fun l=>l[2]?) e
   simp only [List.getElem?_cons_succ,List.getElem?_cons_zero,Option.some.injEq,Value.slice.injEq,true_and] at e2
   obtain ⟨e3,e4⟩:=e2
   rw [e3,e4]
   exact bor_C at_2 hh.2 hh.1
theorem inn50z {b0 w0 w:World} {P:Nat→Prop} {D:List (World→Prop)} {G:List Pc} {at0:At k50} {A:Option Addr} {c:Nat} (S:St b0 w0 P D w G) (xs:List S50) [hB:HasBor D at0 xs A c] (at_2:At k88) (h1:0 < xs.length:=by first | assumption | omega):∃ A2 c2,St b0 w0 P (bcell (adr A) (.int .i64 (rd_T50 xs 0).f0) :: bcell ((adr A).add 0) (.int .i64 (rd_T50 xs 0).f0) :: bcell (⟨(adr A).block,(adr A).off + 1,none⟩) (.int .i64 (rd_T50 xs 0).f1) :: bcell (⟨((adr A).add 0).block,((adr A).add 0).off + 1,none⟩) (.int .i64 (rd_T50 xs 0).f1) :: bcell (⟨(adr A).block,(adr A).off + 2,none⟩) (.slice A2 (rd_T50 xs 0).f2.length c2) :: bcell (⟨((adr A).add 0).block,((adr A).add 0).off + 2,none⟩) (.slice A2 (rd_T50 xs 0).f2.length c2) :: bor at_2 A2 c2 (rd_T50 xs 0).f2 :: D) w G:=by
 obtain ⟨cs,hK,h⟩:=S.el xs (Nat.le_of_ble_eq_true rfl) z50 0 (Int.le_refl 0) (by omega)
 obtain ⟨A2,c2,e,_⟩:=k50_open hK
 subst e
 refine ⟨A2,c2,h [bcell (adr A) (.int .i64 (rd_T50 xs 0).f0),bcell ((adr A).add 0) (.int .i64 (rd_T50 xs 0).f0),bcell (⟨(adr A).block,(adr A).off + 1,none⟩) (.int .i64 (rd_T50 xs 0).f1),bcell (⟨((adr A).add 0).block,((adr A).add 0).off + 1,none⟩) (.int .i64 (rd_T50 xs 0).f1),bcell (⟨(adr A).block,(adr A).off + 2,none⟩) (.slice A2 (rd_T50 xs 0).f2.length c2),bcell (⟨((adr A).add 0).block,((adr A).add 0).off + 2,none⟩) (.slice A2 (rd_T50 xs 0).f2.length c2),bor at_2 A2 c2 (rd_T50 xs 0).f2] (fun q hq W hW=>?_)⟩
 simp only [List.mem_cons,List.not_mem_nil,or_false] at hq
 rcases hq with rfl | rfl | rfl | rfl | rfl | rfl | rfl
 · exact hW.2 0 _ rfl
 · exact hW.2 0 _ rfl
 · exact hW.2 1 _ rfl
 · exact hW.2 1 _ rfl
 · exact hW.2 2 _ rfl
 · exact hW.2 2 _ rfl
 · obtain ⟨zA2,zc2,e,hh⟩:=k50_open hW.1
   have e2:=congrArg (fun l=>l[2]?) e
   simp only [List.getElem?_cons_succ,List.getElem?_cons_zero,Option.some.injEq,Value.slice.injEq,true_and] at e2
   obtain ⟨e3,e4⟩:=e2
   rw [e3,e4]
   exact bor_C at_2 hh.2 hh.1
def at127:At k127 where
 F w A xs:=∀ i:Int,0 ≤ i→i < xs.length→w.cell? ((adr A).add (i.toNat * 3)) = some (.int .i64 (rd_T127 xs i).f0)∧w.cell? ⟨((adr A).add (i.toNat * 3)).block,((adr A).add (i.toNat * 3)).off + 1,none⟩ = some (.int .i64 (rd_T127 xs i).f1)∧w.cell? ⟨((adr A).add (i.toNat * 3)).block,((adr A).add (i.toNat * 3)).off + 2,none⟩ = some (.int .i64 (rd_T127 xs i).f2)
 h hC i h0 h1:=by obtain ⟨ad,e,h⟩:=at_T127 hC i h0 h1;rw [e];exact h
instance {w:World} {A:Option Addr} {xs:List S127}:AtF at127 w A xs (∀ i:Int,0 ≤ i→i < xs.length→w.cell? ((adr A).add (i.toNat * 3)) = some (.int .i64 (rd_T127 xs i).f0)∧w.cell? ⟨((adr A).add (i.toNat * 3)).block,((adr A).add (i.toNat * 3)).off + 1,none⟩ = some (.int .i64 (rd_T127 xs i).f1)∧w.cell? ⟨((adr A).add (i.toNat * 3)).block,((adr A).add (i.toNat * 3)).off + 2,none⟩ = some (.int .i64 (rd_T127 xs i).f2)):=⟨id⟩
theorem Wr127_0 (x:S127) (y:Int):Wr k127 x 0 [.int .i64 y] ⟨y,x.f1,x.f2⟩:=by
 intro W base ok c h;obtain rfl:=k127_openM h;exact ⟨Nat.le_of_ble_eq_true rfl,k127_mkM _ _ _ ⟨y,x.f1,x.f2⟩⟩
theorem Wr127_1 (x:S127) (y:Int):Wr k127 x 1 [.int .i64 y] ⟨x.f0,y,x.f2⟩:=by
 intro W base ok c h;obtain rfl:=k127_openM h;exact ⟨Nat.le_of_ble_eq_true rfl,k127_mkM _ _ _ ⟨x.f0,y,x.f2⟩⟩
theorem Wr127_2 (x:S127) (y:Int):Wr k127 x 2 [.int .i64 y] ⟨x.f0,x.f1,y⟩:=by
 intro W base ok c h;obtain rfl:=k127_openM h;exact ⟨Nat.le_of_ble_eq_true rfl,k127_mkM _ _ _ ⟨x.f0,x.f1,y⟩⟩
instance:KM k127:=⟨fun w x cs h W base=>by obtain rfl:=k127_open h;exact k127_mkM _ _ _ x⟩
instance:Dz k127 z127:=⟨trivial⟩
theorem gd127 (x:List S127) (i:Int):x.getD i.toNat z127 = rd_T127 x i:=rfl
instance:Zr k127 [.int .i64 0,.int .i64 0,.int .i64 0] z127:=⟨fun _ _=>k127_mkM _ _ _ z127⟩
instance {y0:Int} { y1:Int} { y2:Int}:MkM k127 [.int .i64 y0,.int .i64 y1,.int .i64 y2] ⟨y0,y1,y2⟩:=⟨fun _ _=>k127_mkM _ _ _ ⟨y0,y1,y2⟩⟩
instance {x:S127} {y:Int}:WrC k127 x 0 [.int .i64 y] ⟨y,x.f1,x.f2⟩:=⟨Wr127_0 x y⟩
instance {x:S127} {y:Int}:WrC k127 x 1 [.int .i64 y] ⟨x.f0,y,x.f2⟩:=⟨Wr127_1 x y⟩
instance {x:S127} {y:Int}:WrC k127 x 2 [.int .i64 y] ⟨x.f0,x.f1,y⟩:=⟨Wr127_2 x y⟩
theorem Wr127 (x y:S127):Wr k127 x 0 [.int .i64 y.f0,.int .i64 y.f1,.int .i64 y.f2] y:=by
 intro W base ok c h;obtain rfl:=k127_openM h;exact ⟨Nat.le_of_ble_eq_true rfl,k127_mkM _ _ _ y⟩
instance {x:S127} {y0:Int} { y1:Int} { y2:Int}:WrC k127 x 0 [.int .i64 y0,.int .i64 y1,.int .i64 y2] ⟨y0,y1,y2⟩:=⟨Wr127 x ⟨y0,y1,y2⟩⟩
theorem sz3:(Try.prog.info? 3).map (·.size) = some 1:=by kernel_rfl
theorem zi3:(Try.prog.info? 3).map (fun i=>(i.zero,i.size,i.bytes)) = some (some (.int .i64 0),1,8):=by kernel_rfl
theorem sz4:(Try.prog.info? 4).map (·.size) = some 1:=by kernel_rfl
theorem sz23:(Try.prog.info? 23).map (·.size) = some 1:=by kernel_rfl
theorem sz29:(Try.prog.info? 29).map (·.size) = some 1:=by kernel_rfl
theorem sz31:(Try.prog.info? 31).map (·.size) = some 5:=by kernel_rfl
theorem zi31:(Try.prog.info? 31).map (fun i=>(i.zero,i.size,i.bytes)) = some (some (.agg #[(.int .i64 0),(.int .i64 0),(.slice none 0 0),(.slice none 0 0),(.slice none 0 0)]),5,88):=by kernel_rfl
theorem sz50:(Try.prog.info? 50).map (·.size) = some 3:=by kernel_rfl
theorem zi50:(Try.prog.info? 50).map (fun i=>(i.zero,i.size,i.bytes)) = some (some (.agg #[(.int .i64 0),(.int .i64 0),(.slice none 0 0)]),3,40):=by kernel_rfl
theorem sz88:(Try.prog.info? 88).map (·.size) = some 2:=by kernel_rfl
theorem zi88:(Try.prog.info? 88).map (fun i=>(i.zero,i.size,i.bytes)) = some (some (.agg #[(.int .i64 0),(.int .i64 0)]),2,16):=by kernel_rfl
theorem sz89:(Try.prog.info? 89).map (·.size) = some 1:=by kernel_rfl
theorem zi89:(Try.prog.info? 89).map (fun i=>(i.zero,i.size,i.bytes)) = some (some (.slice none 0 0),1,24):=by kernel_rfl
theorem sz127:(Try.prog.info? 127).map (·.size) = some 3:=by kernel_rfl
theorem zi127:(Try.prog.info? 127).map (fun i=>(i.zero,i.size,i.bytes)) = some (some (.agg #[(.int .i64 0),(.int .i64 0),(.int .i64 0)]),3,24):=by kernel_rfl
end Go.Proofs.Ytipaimgpmgbkiaa.F
