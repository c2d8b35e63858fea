-- Printed by a program; checked here.
import Derived.Test.YtbbhacpahnnlcaaProg
import Derived.Below
import Derived.Deep.Draws
import Derived.Deep.AppendLies
import Derived.Maps.AppendAt
import Derived.OwnWalk
import Derived.Laws.BytesArg
import Derived.Laws.MakeOwn
import Derived.Laws.OwnMore
import Derived.Deep.OwnRows
import Derived.Tactics
import Derived.Lib.ConvBytes
import Derived.Laws.Slices
import Derived.WalkKit
import Derived.KernelRfl
import Derived.RowKit3
import Derived.Deep.LoopGhost
import Derived.Deep.QuietTactic
import Derived.BigQuiet
import Derived.WideLaws
import Derived.Deep.DeepCutAuto
import Derived.Deep.CutBlock
import Derived.Deep.RegionHeld3
import Derived.Laws.Rows
import Derived.Lib.AppendStr
import Derived.ArgAppend
import Derived.Laws.IdiomCopy
import Derived.OrdersHeld
import Derived.Laws.BitsLemmas
import Derived.RowKit
import Derived.Test.YtbbhacpahnnlcaaVWords
import Derived.Test.YtbbhacpahnnlcaaVLast
import Derived.Test.YtbbhacpahnnlcaaVTab
import Derived.Test.YtbbhacpahnnlcaaVFour
import Derived.Test.YtbbhacpahnnlcaaVQPut
import Derived.Test.YtbbhacpahnnlcaaVApart
import Derived.Test.YtbbhacpahnnlcaaVArr
import Derived.Test.YtbbhacpahnnlcaaVZeros
import Derived.Test.YtbbhacpahnnlcaaVFoot
import Derived.Test.YtbbhacpahnnlcaaVKept
import Derived.Test.YtbbhacpahnnlcaaVShare
import Derived.Test.YtbbhacpahnnlcaaVN
import Derived.Test.YtbbhacpahnnlcaaVFootNe
import Derived.Test.YtbbhacpahnnlcaaVAt
import Derived.Test.YtbbhacpahnnlcaaVEqStruct
import Derived.Test.YtbbhacpahnnlcaaVRepsOne
import Derived.Test.YtbbhacpahnnlcaaVInv
import Derived.Test.YtbbhacpahnnlcaaVInvWords
import Derived.Test.YtbbhacpahnnlcaaVGuard
import Derived.Test.YtbbhacpahnnlcaaVNEv
import Derived.Test.YtbbhacpahnnlcaaVMore
import Derived.Test.YtbbhacpahnnlcaaVMine
import Derived.Test.YtbbhacpahnnlcaaVSl
import Derived.Test.YtbbhacpahnnlcaaVFl
namespace Go.Proofs.Ytbbhacpahnnlcaa.F
open Go.RowKit Go.Proofs.YtbbhacpahnnlcaaV.PrintWords Go.Proofs.YtbbhacpahnnlcaaV.PrintLast Go.Proofs.YtbbhacpahnnlcaaV.PrintMore Go.Proofs.YtbbhacpahnnlcaaV.Sl
attribute [local go_sem] max2_int min2_int max_two min_two max_three min_three max_four min_four   -- for this text's walks alone
set_option linter.unusedVariables false
set_option linter.unusedSimpArgs false



def errW:Option Int→Value
 | none=>.nilIface
 | some c=>.iface 0 (.int .i64 c)
theorem e0_:errW none = .nilIface:=rfl
theorem e1_ (c:Int):errW (some c) = .iface 0 (.int .i64 c):=rfl

theorem info3:(Try.prog.info? 3).map (fun i=>(i.zero,i.size,i.bytes)) = some (some (.int .i64 0),1,8):=by kernel_rfl
theorem info27:(Try.prog.info? 27).map (fun i=>(i.zero,i.size,i.bytes)) = some (some (.agg #[(.int .i64 0),(.int .i64 0)]),2,16):=by kernel_rfl
-- the values' own types
/-! #### struct type 27 -/
structure S27 where
 f0:Int
 f1:Int
def z27:S27:=⟨(0:Int),(0:Int)⟩
def k27:Kd S27:=Kd.iso (Kd.pair (Kd.int .i64) (Kd.int .i64)) (fun x:S27=>(x.f0,x.f1))
theorem k27_open {w:World} {x:S27} {cs:List Value} (h:k27.K w x cs):cs = [.int .i64 x.f0,.int .i64 x.f1]:=by
 obtain ⟨_,_,rfl,rfl,rfl⟩:=h;exact rfl
theorem k27_openM {w:World} {base:Nat} {ok:Nat→Prop} {x:S27} {cs:List Value} (h:k27.M w base ok x cs):cs = [.int .i64 x.f0,.int .i64 x.f1]:=by
 obtain ⟨_,_,rfl,rfl,rfl⟩:=h;exact rfl
theorem k27_mk (w:World) (x:S27)  : k27.K w x [.int .i64 x.f0,.int .i64 x.f1]:=⟨[.int .i64 x.f0],[.int .i64 x.f1],rfl,rfl,rfl⟩
theorem k27_mkM (w:World) (base:Nat) (ok:Nat→Prop) (x:S27)  : k27.M w base ok x [.int .i64 x.f0,.int .i64 x.f1]:=⟨[.int .i64 x.f0],[.int .i64 x.f1],rfl,rfl,rfl⟩
def rd_T27 (xs:List S27) (i:Int):S27:=xs.getD i.toNat z27
theorem at_T27 {w:World} {A:Option Addr} {n:Nat} {xs:List S27} (h:Kd.C k27 w A n xs) (i:Int) (h0:0 ≤ i) (h1:i < n):∃ ad ,A = some ad∧w.cell? (ad.add (i.toNat * 2)) = some (.int .i64 (rd_T27 xs i).f0)∧w.cell? ⟨(ad.add (i.toNat * 2)).block,(ad.add (i.toNat * 2)).off + 1,none⟩ = some (.int .i64 (rd_T27 xs i).f1):=by
 obtain ⟨ad,c,e,_,hK,hc0⟩:=Kd.C_get h z27 i h0 h1;have hc:∀ j u,c[j]? = some u→w.cell? (ad.add (i.toNat * 2 + j)) = some u:=hc0;obtain rfl:=k27_open hK;exact ⟨ad,e,hc 0 _ rfl,by rw [← add_field _ _ 1 (by omega)];exact hc 1 _ rfl⟩

theorem k27_heap:Kd.Heap k27:=Kd.heap_iso _ (Kd.heap_pair (Kd.heap_int .i64) (Kd.heap_int .i64))
def at27:At k27 where
 F w A xs:=∀ i:Int,0 ≤ i→i < xs.length→w.cell? ((adr A).add (i.toNat * 2)) = some (.int .i64 (rd_T27 xs i).f0)∧w.cell? ⟨((adr A).add (i.toNat * 2)).block,((adr A).add (i.toNat * 2)).off + 1,none⟩ = some (.int .i64 (rd_T27 xs i).f1)
 h hC i h0 h1:=by obtain ⟨ad,e,h⟩:=at_T27 hC i h0 h1;rw [e];exact h
instance {w:World} {A:Option Addr} {xs:List S27}:AtF at27 w A xs (∀ i:Int,0 ≤ i→i < xs.length→w.cell? ((adr A).add (i.toNat * 2)) = some (.int .i64 (rd_T27 xs i).f0)∧w.cell? ⟨((adr A).add (i.toNat * 2)).block,((adr A).add (i.toNat * 2)).off + 1,none⟩ = some (.int .i64 (rd_T27 xs i).f1)):=⟨id⟩
theorem Wr27_0 (x:S27) (y:Int):Wr k27 x 0 [.int .i64 y] ⟨y,x.f1⟩:=by
 intro W base ok c h;obtain rfl:=k27_openM h;exact ⟨Nat.le_of_ble_eq_true rfl,k27_mkM _ _ _ ⟨y,x.f1⟩⟩
theorem Wr27_1 (x:S27) (y:Int):Wr k27 x 1 [.int .i64 y] ⟨x.f0,y⟩:=by
 intro W base ok c h;obtain rfl:=k27_openM h;exact ⟨Nat.le_of_ble_eq_true rfl,k27_mkM _ _ _ ⟨x.f0,y⟩⟩
instance:KM k27:=⟨fun w x cs h W base=>by obtain rfl:=k27_open h;exact k27_mkM _ _ _ x⟩
instance:Dz k27 z27:=⟨trivial⟩
theorem gd27 (x:List S27) (i:Int):x.getD i.toNat z27 = rd_T27 x i:=rfl
instance:Zr k27 [.int .i64 0,.int .i64 0] z27:=⟨fun _ _=>k27_mkM _ _ _ z27⟩
instance {y0:Int} { y1:Int}:MkM k27 [.int .i64 y0,.int .i64 y1] ⟨y0,y1⟩:=⟨fun _ _=>k27_mkM _ _ _ ⟨y0,y1⟩⟩
instance {x:S27} {y:Int}:WrC k27 x 0 [.int .i64 y] ⟨y,x.f1⟩:=⟨Wr27_0 x y⟩
instance {x:S27} {y:Int}:WrC k27 x 1 [.int .i64 y] ⟨x.f0,y⟩:=⟨Wr27_1 x y⟩
theorem Wr27 (x y:S27):Wr k27 x 0 [.int .i64 y.f0,.int .i64 y.f1] y:=by
 intro W base ok c h;obtain rfl:=k27_openM h;exact ⟨Nat.le_of_ble_eq_true rfl,k27_mkM _ _ _ y⟩
instance {x:S27} {y0:Int} { y1:Int}:WrC k27 x 0 [.int .i64 y0,.int .i64 y1] ⟨y0,y1⟩:=⟨Wr27 x ⟨y0,y1⟩⟩
theorem sz3:(Try.prog.info? 3).map (·.size) = some 1:=by kernel_rfl
theorem sz23:(Try.prog.info? 23).map (·.size) = some 1:=by kernel_rfl
theorem sz25:(Try.prog.info? 25).map (·.size) = some 3:=by kernel_rfl
theorem zi25:(Try.prog.info? 25).map (fun i=>(i.zero,i.size,i.bytes)) = some (some (.agg #[(.int .i64 0),(.int .i64 0),(.slice none 0 0)]),3,40):=by kernel_rfl
theorem sz27:(Try.prog.info? 27).map (·.size) = some 2:=by kernel_rfl
theorem zi27:(Try.prog.info? 27).map (fun i=>(i.zero,i.size,i.bytes)) = some (some (.agg #[(.int .i64 0),(.int .i64 0)]),2,16):=by kernel_rfl
theorem sz49:(Try.prog.info? 49).map (·.size) = some 1:=by kernel_rfl
end Go.Proofs.Ytbbhacpahnnlcaa.F
