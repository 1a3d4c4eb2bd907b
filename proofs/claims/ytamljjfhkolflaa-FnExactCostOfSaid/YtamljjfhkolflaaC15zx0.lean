import Derived.Test.YtamljjfhkolflaaProg
import Derived.Below
import Derived.Deep.Draws
import Derived.Deep.AppendLies
import Derived.Maps.AppendAt
import Derived.OwnWalk
import Derived.Laws.BytesArg
import Derived.Laws.MakeOwn
import Derived.Laws.OwnMore
import Derived.Deep.OwnRows
import Derived.Tactics
import Derived.Lib.ConvBytes
import Derived.Laws.Slices
import Derived.WalkKit
import Derived.KernelRfl
import Derived.RowKit3
import Derived.Deep.LoopGhost
import Derived.Deep.QuietTactic
import Derived.BigQuiet
import Derived.WideLaws
import Derived.Deep.DeepCutAuto
import Derived.Deep.CutBlock
import Derived.Deep.RegionHeld3
import Derived.Laws.Rows
import Derived.Lib.AppendStr
import Derived.ArgAppend
import Derived.Laws.IdiomCopy
import Derived.OrdersHeld
import Derived.Laws.BitsLemmas
import Derived.RowKit
import Derived.Shelf.Abstract
import Derived.Test.YtamljjfhkolflaaC15zH0
import Derived.Laws.EntriesVeiled
import Derived.Shelf.Slices.Cells
import Derived.Shelf.Slices.Empties
import Derived.Test.YtamljjfhkolflaaC15zWWords
import Derived.Test.YtamljjfhkolflaaC15zWLast
import Derived.Test.YtamljjfhkolflaaC15zWTab
import Derived.Test.YtamljjfhkolflaaC15zWFour
import Derived.Test.YtamljjfhkolflaaC15zWQPut
import Derived.Test.YtamljjfhkolflaaC15zWApart
import Derived.Test.YtamljjfhkolflaaC15zWArr
import Derived.Test.YtamljjfhkolflaaC15zWZeros
import Derived.Test.YtamljjfhkolflaaC15zWFoot
import Derived.Test.YtamljjfhkolflaaC15zWKept
import Derived.Test.YtamljjfhkolflaaC15zWShare
import Derived.Test.YtamljjfhkolflaaC15zWN
import Derived.Test.YtamljjfhkolflaaC15zWFootNe
import Derived.Test.YtamljjfhkolflaaC15zWAt
import Derived.Test.YtamljjfhkolflaaC15zWEqStruct
import Derived.Test.YtamljjfhkolflaaC15zWRepsOne
import Derived.Test.YtamljjfhkolflaaC15zWInv
import Derived.Test.YtamljjfhkolflaaC15zWInvWords
import Derived.Test.YtamljjfhkolflaaC15zWGuard
import Derived.Test.YtamljjfhkolflaaC15zWNEv
import Derived.Test.YtamljjfhkolflaaC15zWMore
import Derived.Test.YtamljjfhkolflaaC15zAl
namespace Go.Proofs.Ytamljjfhkolflaa.C15
open Go.RowKit Go.Proofs.YtamljjfhkolflaaW.PrintWords Go.Proofs.YtamljjfhkolflaaW.PrintLast Go.Proofs.YtamljjfhkolflaaW.PrintMore Go.Proofs.Ytamljjfhkolflaa.H
attribute [local go_sem] max2_int min2_int max_two min_two max_three min_three max_four min_four
set_option linter.unusedVariables false
set_option linter.unusedSimpArgs false
def errW:Option Int→Value
 | none => .nilIface
 | some c => .iface 0 (.int .i64 c)
theorem errW_none:errW none = .nilIface:=rfl
theorem errW_some (c:Int):errW (some c) = .iface 0 (.int .i64 c):=rfl
theorem info3:(Try.prog.info? 3).map (fun i=>(i.zero,i.size,i.bytes))=some (some (.int .i64 0),1,8):=by kernel_rfl
theorem info4:(Try.prog.info? 4).map (fun i=>(i.zero,i.size,i.bytes))=some (some (.bool false),1,1):=by kernel_rfl
theorem info22:(Try.prog.info? 22).map (fun i=>(i.zero,i.size,i.bytes))=some (some (.slice none 0 0),1,24):=by kernel_rfl
def rd_L2 (xs:List (List Int)) (i:Int):(List Int):=xs.getD i.toNat ([]:List Int)
theorem at_L2 {w:World} {A:Option Addr} {n:Nat} {xs:List (List Int)} (h:Kd.C (Kd.slice 3 (Kd.int .i64)) w A n xs) (i:Int) (h0:0≤i) (h1:i < n):∃ ad A0 c0,A=some ad∧w.cell? (ad.add i.toNat)=some (.slice A0 (rd_L2 xs i).length c0)∧(rd_L2 xs i).length≤c0∧(Kd.int .i64).C w A0 (rd_L2 xs i).length (rd_L2 xs i):=by
 obtain ⟨ad,c,e,_,hK,hc0⟩:=Kd.C_get h ([]:List Int) i h0 h1
 have hc:∀ j u,c[j]? = some u→w.cell? (ad.add (i.toNat * 1+j))=some u:=hc0
 obtain ⟨A0,c0,rfl,l0,g0⟩:=hK
 exact ⟨ad,A0,c0,e,by have hq:=hc 0 _ rfl;rwa [Nat.mul_one,Nat.add_zero] at hq,l0,g0⟩
structure S28 where
 f0:(List Int)
 f1:Int
end Go.Proofs.Ytamljjfhkolflaa.C15
