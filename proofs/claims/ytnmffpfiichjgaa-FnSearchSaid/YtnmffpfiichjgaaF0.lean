-- Printed by a program; checked here.
import Derived.Test.YtnmffpfiichjgaaProg
import Derived.Below
import Derived.Deep.Draws
import Derived.Deep.AppendLies
import Derived.Maps.AppendAt
import Derived.OwnWalk
import Derived.Laws.BytesArg
import Derived.Laws.MakeOwn
import Derived.Laws.OwnMore
import Derived.Deep.OwnRows
import Derived.Tactics
import Derived.Lib.ConvBytes
import Derived.Laws.Slices
import Derived.WalkKit
import Derived.KernelRfl
import Derived.RowKit3
import Derived.Deep.LoopGhost
import Derived.Deep.QuietTactic
import Derived.BigQuiet
import Derived.WideLaws
import Derived.Deep.DeepCutAuto
import Derived.Deep.CutBlock
import Derived.Deep.RegionHeld3
import Derived.Laws.Rows
import Derived.Lib.AppendStr
import Derived.ArgAppend
import Derived.Laws.IdiomCopy
import Derived.OrdersHeld
import Derived.Laws.BitsLemmas
import Derived.RowKit
import Derived.Test.YtnmffpfiichjgaaVWords
import Derived.Test.YtnmffpfiichjgaaVLast
import Derived.Test.YtnmffpfiichjgaaVTab
import Derived.Test.YtnmffpfiichjgaaVFour
import Derived.Test.YtnmffpfiichjgaaVQPut
import Derived.Test.YtnmffpfiichjgaaVApart
import Derived.Test.YtnmffpfiichjgaaVArr
import Derived.Test.YtnmffpfiichjgaaVZeros
import Derived.Test.YtnmffpfiichjgaaVFoot
import Derived.Test.YtnmffpfiichjgaaVKept
import Derived.Test.YtnmffpfiichjgaaVShare
import Derived.Test.YtnmffpfiichjgaaVN
import Derived.Test.YtnmffpfiichjgaaVFootNe
import Derived.Test.YtnmffpfiichjgaaVAt
import Derived.Test.YtnmffpfiichjgaaVEqStruct
import Derived.Test.YtnmffpfiichjgaaVRepsOne
import Derived.Test.YtnmffpfiichjgaaVInv
import Derived.Test.YtnmffpfiichjgaaVInvWords
import Derived.Test.YtnmffpfiichjgaaVGuard
import Derived.Test.YtnmffpfiichjgaaVNEv
import Derived.Test.YtnmffpfiichjgaaVMore
import Derived.Test.YtnmffpfiichjgaaVMine
import Derived.Test.YtnmffpfiichjgaaVSl
import Derived.Test.YtnmffpfiichjgaaVFl
import Derived.Test.YtnmffpfiichjgaaVRf
namespace Go.Proofs.Ytnmffpfiichjgaa.F
open Go.RowKit Go.Proofs.YtnmffpfiichjgaaV.PrintWords Go.Proofs.YtnmffpfiichjgaaV.PrintLast Go.Proofs.YtnmffpfiichjgaaV.PrintMore Go.Proofs.YtnmffpfiichjgaaV.Sl Go.Proofs.YtnmffpfiichjgaaV.Rf
attribute [local go_sem] max2_int min2_int max_two min_two max_three min_three max_four min_four   -- for this text's walks alone
set_option linter.unusedVariables false
set_option linter.unusedSimpArgs false



def errW:Option Int→Value
 | none=>.nilIface
 | some c=>.iface 0 (.int .i64 c)
theorem e0_:errW none = .nilIface:=rfl
theorem e1_ (c:Int):errW (some c) = .iface 0 (.int .i64 c):=rfl

theorem info3:(Try.prog.info? 3).map (fun i=>(i.zero,i.size,i.bytes)) = some (some (.int .i64 0),1,8):=by kernel_rfl
theorem info25:(Try.prog.info? 25).map (fun i=>(i.zero,i.size,i.bytes)) = some (some (.slice none 0 0),1,24):=by kernel_rfl
theorem info42:(Try.prog.info? 42).map (fun i=>(i.zero,i.size,i.bytes)) = some (some (.agg #[(.int .i64 0),(.int .i64 0)]),2,16):=by kernel_rfl
-- the values' own types
/-! #### struct type 42 -/
structure S42 where
 f0:Int
 f1:Int
def z42:S42:=⟨(0:Int),(0:Int)⟩
def k42:Kd S42:=Kd.iso (Kd.pair (Kd.int .i64) (Kd.int .i64)) (fun x:S42=>(x.f0,x.f1))
theorem k42_heap:Kd.Heap k42:=Kd.heap_iso _ (Kd.heap_pair (Kd.heap_int .i64) (Kd.heap_int .i64))
theorem k42_open {w:World} {x:S42} {cs:List Value} (h:k42.K w x cs):cs = [.int .i64 x.f0,.int .i64 x.f1]:=by
 obtain ⟨_,_,rfl,rfl,rfl⟩:=h;exact rfl
theorem k42_openM {w:World} {base:Nat} {ok:Nat→Prop} {x:S42} {cs:List Value} (h:k42.M w base ok x cs):cs = [.int .i64 x.f0,.int .i64 x.f1]:=by
 obtain ⟨_,_,rfl,rfl,rfl⟩:=h;exact rfl
theorem k42_mk (w:World) (x:S42)  : k42.K w x [.int .i64 x.f0,.int .i64 x.f1]:=⟨[.int .i64 x.f0],[.int .i64 x.f1],rfl,rfl,rfl⟩
theorem k42_mkM (w:World) (base:Nat) (ok:Nat→Prop) (x:S42)  : k42.M w base ok x [.int .i64 x.f0,.int .i64 x.f1]:=⟨[.int .i64 x.f0],[.int .i64 x.f1],rfl,rfl,rfl⟩
theorem k42_mkF (W:World) (ok:Nat→Prop) (x:S42):Kd.FK k42 W ok x [.int .i64 x.f0,.int .i64 x.f1]:=fun W2 _=>k42_mk W2 x
def rd_T42 (xs:List S42) (i:Int):S42:=xs.getD i.toNat z42
theorem at_T42 {w:World} {A:Option Addr} {n:Nat} {xs:List S42} (h:Kd.C k42 w A n xs) (i:Int) (h0:0 ≤ i) (h1:i < n):∃ ad ,A = some ad∧w.cell? (ad.add (i.toNat * 2)) = some (.int .i64 (rd_T42 xs i).f0)∧w.cell? ⟨(ad.add (i.toNat * 2)).block,(ad.add (i.toNat * 2)).off + 1,none⟩ = some (.int .i64 (rd_T42 xs i).f1):=by
 obtain ⟨ad,c,e,_,hK,hc0⟩:=Kd.C_get h z42 i h0 h1;have hc:∀ j u,c[j]? = some u→w.cell? (ad.add (i.toNat * 2 + j)) = some u:=hc0;obtain rfl:=k42_open hK;exact ⟨ad,e,hc 0 _ rfl,by rw [← add_field _ _ 1 (by omega)];exact hc 1 _ rfl⟩

def rd_L3 (xs:List (List Int)) (i:Int):(List Int):=xs.getD i.toNat ([]:List Int)
theorem at_L3 {w:World} {A:Option Addr} {n:Nat} {xs:List (List Int)} (h:Kd.C (Kd.slice 3 (Kd.int .i64)) w A n xs) (i:Int) (h0:0 ≤ i) (h1:i < n):∃ ad A0 c0,A = some ad∧w.cell? (ad.add i.toNat) = some (.slice A0 (rd_L3 xs i).length c0)∧(rd_L3 xs i).length ≤ c0∧(Kd.int .i64).C w A0 (rd_L3 xs i).length (rd_L3 xs i):=by
 obtain ⟨ad,c,e,_,hK,hc0⟩:=Kd.C_get h ([]:List Int) i h0 h1;have hc:∀ j u,c[j]? = some u→w.cell? (ad.add (i.toNat * 1 + j)) = some u:=hc0;obtain ⟨A0,c0,rfl,l0,g0⟩:=hK;exact ⟨ad,A0,c0,e,by have hq:=hc 0 _ rfl;rwa [Nat.mul_one,Nat.add_zero] at hq,l0,g0⟩

def at42:At k42 where
 F w A xs:=∀ i:Int,0 ≤ i→i < xs.length→w.cell? ((adr A).add (i.toNat * 2)) = some (.int .i64 (rd_T42 xs i).f0)∧w.cell? ⟨((adr A).add (i.toNat * 2)).block,((adr A).add (i.toNat * 2)).off + 1,none⟩ = some (.int .i64 (rd_T42 xs i).f1)
 h hC i h0 h1:=by obtain ⟨ad,e,h⟩:=at_T42 hC i h0 h1;rw [e];exact h
instance {w:World} {A:Option Addr} {xs:List S42}:AtF at42 w A xs (∀ i:Int,0 ≤ i→i < xs.length→w.cell? ((adr A).add (i.toNat * 2)) = some (.int .i64 (rd_T42 xs i).f0)∧w.cell? ⟨((adr A).add (i.toNat * 2)).block,((adr A).add (i.toNat * 2)).off + 1,none⟩ = some (.int .i64 (rd_T42 xs i).f1)):=⟨id⟩
theorem Wr42_0 (x:S42) (y:Int):Wr k42 x 0 [.int .i64 y] ⟨y,x.f1⟩:=by
 intro W base ok c h;obtain rfl:=k42_openM h;exact ⟨Nat.le_of_ble_eq_true rfl,k42_mkM _ _ _ ⟨y,x.f1⟩⟩
theorem Wr42_1 (x:S42) (y:Int):Wr k42 x 1 [.int .i64 y] ⟨x.f0,y⟩:=by
 intro W base ok c h;obtain rfl:=k42_openM h;exact ⟨Nat.le_of_ble_eq_true rfl,k42_mkM _ _ _ ⟨x.f0,y⟩⟩
instance:KM k42:=⟨fun w x cs h W base=>by obtain rfl:=k42_open h;exact k42_mkM _ _ _ x⟩
instance:Dz k42 z42:=⟨trivial⟩
theorem gd42 (x:List S42) (i:Int):x.getD i.toNat z42 = rd_T42 x i:=rfl
instance:Zr k42 [.int .i64 0,.int .i64 0] z42:=⟨fun _ _=>k42_mkM _ _ _ z42⟩
instance {y0:Int} { y1:Int}:MkM k42 [.int .i64 y0,.int .i64 y1] ⟨y0,y1⟩:=⟨fun _ _=>k42_mkM _ _ _ ⟨y0,y1⟩⟩
instance {x:S42} {y:Int}:WrC k42 x 0 [.int .i64 y] ⟨y,x.f1⟩:=⟨Wr42_0 x y⟩
instance {x:S42} {y:Int}:WrC k42 x 1 [.int .i64 y] ⟨x.f0,y⟩:=⟨Wr42_1 x y⟩
theorem Wr42 (x y:S42):Wr k42 x 0 [.int .i64 y.f0,.int .i64 y.f1] y:=by
 intro W base ok c h;obtain rfl:=k42_openM h;exact ⟨Nat.le_of_ble_eq_true rfl,k42_mkM _ _ _ y⟩
instance {x:S42} {y0:Int} { y1:Int}:WrC k42 x 0 [.int .i64 y0,.int .i64 y1] ⟨y0,y1⟩:=⟨Wr42 x ⟨y0,y1⟩⟩
theorem sz3:(Try.prog.info? 3).map (·.size) = some 1:=by kernel_rfl
theorem zi3:(Try.prog.info? 3).map (fun i=>(i.zero,i.size,i.bytes)) = some (some (.int .i64 0),1,8):=by kernel_rfl
theorem sz4:(Try.prog.info? 4).map (·.size) = some 1:=by kernel_rfl
theorem zi4:(Try.prog.info? 4).map (fun i=>(i.zero,i.size,i.bytes)) = some (some (.bool false),1,1):=by kernel_rfl
theorem sz24:(Try.prog.info? 24).map (·.size) = some 1:=by kernel_rfl
theorem sz25:(Try.prog.info? 25).map (·.size) = some 1:=by kernel_rfl
theorem sz27:(Try.prog.info? 27).map (·.size) = some 5:=by kernel_rfl
theorem zi27:(Try.prog.info? 27).map (fun i=>(i.zero,i.size,i.bytes)) = some (some (.agg #[(.int .i64 0),(.int .i64 0),(.slice none 0 0),(.slice none 0 0),(.slice none 0 0)]),5,88):=by kernel_rfl
theorem sz30:(Try.prog.info? 30).map (·.size) = some 3:=by kernel_rfl
theorem zi30:(Try.prog.info? 30).map (fun i=>(i.zero,i.size,i.bytes)) = some (some (.agg #[(.int .i64 0),(.int .i64 0),(.slice none 0 0)]),3,40):=by kernel_rfl
theorem sz42:(Try.prog.info? 42).map (·.size) = some 2:=by kernel_rfl
theorem zi42:(Try.prog.info? 42).map (fun i=>(i.zero,i.size,i.bytes)) = some (some (.agg #[(.int .i64 0),(.int .i64 0)]),2,16):=by kernel_rfl
theorem sz80:(Try.prog.info? 80).map (·.size) = some 3:=by kernel_rfl
theorem zi80:(Try.prog.info? 80).map (fun i=>(i.zero,i.size,i.bytes)) = some (some (.agg #[(.int .i64 0),(.int .i64 0),(.int .i64 0)]),3,24):=by kernel_rfl
theorem sz109:(Try.prog.info? 109).map (·.size) = some 1:=by kernel_rfl
end Go.Proofs.Ytnmffpfiichjgaa.F
