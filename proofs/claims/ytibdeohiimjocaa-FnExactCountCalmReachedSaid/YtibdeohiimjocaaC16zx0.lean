import Derived.Test.YtibdeohiimjocaaProg
import Derived.Below
import Derived.Deep.Draws
import Derived.Deep.AppendLies
import Derived.Maps.AppendAt
import Derived.OwnWalk
import Derived.Laws.BytesArg
import Derived.Laws.MakeOwn
import Derived.Laws.OwnMore
import Derived.Deep.OwnRows
import Derived.Tactics
import Derived.Lib.ConvBytes
import Derived.Laws.Slices
import Derived.WalkKit
import Derived.KernelRfl
import Derived.RowKit3
import Derived.Deep.LoopGhost
import Derived.Deep.QuietTactic
import Derived.BigQuiet
import Derived.WideLaws
import Derived.Deep.DeepCutAuto
import Derived.Deep.CutBlock
import Derived.Deep.RegionHeld3
import Derived.Laws.Rows
import Derived.Lib.AppendStr
import Derived.ArgAppend
import Derived.Laws.IdiomCopy
import Derived.OrdersHeld
import Derived.Laws.BitsLemmas
import Derived.RowKit
import Derived.Shelf.Abstract
import Derived.Test.YtibdeohiimjocaaC16zH0
import Derived.Laws.EntriesVeiled
import Derived.Test.YtibdeohiimjocaaC16zWWords
import Derived.Test.YtibdeohiimjocaaC16zWLast
import Derived.Test.YtibdeohiimjocaaC16zWTab
import Derived.Test.YtibdeohiimjocaaC16zWFour
import Derived.Test.YtibdeohiimjocaaC16zWQPut
import Derived.Test.YtibdeohiimjocaaC16zWApart
import Derived.Test.YtibdeohiimjocaaC16zWArr
import Derived.Test.YtibdeohiimjocaaC16zWZeros
import Derived.Test.YtibdeohiimjocaaC16zWFoot
import Derived.Test.YtibdeohiimjocaaC16zWKept
import Derived.Test.YtibdeohiimjocaaC16zWShare
import Derived.Test.YtibdeohiimjocaaC16zWN
import Derived.Test.YtibdeohiimjocaaC16zWFootNe
import Derived.Test.YtibdeohiimjocaaC16zWAt
import Derived.Test.YtibdeohiimjocaaC16zWEqStruct
import Derived.Test.YtibdeohiimjocaaC16zWRepsOne
import Derived.Test.YtibdeohiimjocaaC16zWInv
import Derived.Test.YtibdeohiimjocaaC16zWInvWords
import Derived.Test.YtibdeohiimjocaaC16zWGuard
import Derived.Test.YtibdeohiimjocaaC16zWNEv
import Derived.Test.YtibdeohiimjocaaC16zWMore
import Derived.Test.YtibdeohiimjocaaC16zAl
namespace Go.Proofs.Ytibdeohiimjocaa.C16
open Go.RowKit Go.Proofs.YtibdeohiimjocaaW.PrintWords Go.Proofs.YtibdeohiimjocaaW.PrintLast Go.Proofs.YtibdeohiimjocaaW.PrintMore Go.Proofs.Ytibdeohiimjocaa.H
attribute [local go_sem] max2_int min2_int max_two min_two max_three min_three max_four min_four
set_option linter.unusedVariables false
set_option linter.unusedSimpArgs false
def errW:Option Int→Value
 | none => .nilIface
 | some c => .iface 0 (.int .i64 c)
theorem errW_none:errW none = .nilIface:=rfl
theorem errW_some (c:Int):errW (some c) = .iface 0 (.int .i64 c):=rfl
theorem info3:(Try.prog.info? 3).map (fun i=>(i.zero,i.size,i.bytes))=some (some (.int .i64 0),1,8):=by kernel_rfl
theorem info4:(Try.prog.info? 4).map (fun i=>(i.zero,i.size,i.bytes))=some (some (.bool false),1,1):=by kernel_rfl
structure S40 where
 f0:Int
 f1:Int
structure S51 where
 f0:(List Bool)
 f1:Bool
end Go.Proofs.Ytibdeohiimjocaa.C16
