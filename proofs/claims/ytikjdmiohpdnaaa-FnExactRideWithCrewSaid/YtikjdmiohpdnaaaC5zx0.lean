import Derived.Test.YtikjdmiohpdnaaaProg
import Derived.Below
import Derived.Deep.Draws
import Derived.Deep.AppendLies
import Derived.Maps.AppendAt
import Derived.OwnWalk
import Derived.Laws.BytesArg
import Derived.Laws.MakeOwn
import Derived.Laws.OwnMore
import Derived.Deep.OwnRows
import Derived.Tactics
import Derived.Lib.ConvBytes
import Derived.Laws.Slices
import Derived.WalkKit
import Derived.KernelRfl
import Derived.RowKit3
import Derived.Deep.LoopGhost
import Derived.Deep.QuietTactic
import Derived.BigQuiet
import Derived.WideLaws
import Derived.Deep.DeepCutAuto
import Derived.Deep.CutBlock
import Derived.Deep.RegionHeld3
import Derived.Laws.Rows
import Derived.Lib.AppendStr
import Derived.ArgAppend
import Derived.Laws.IdiomCopy
import Derived.OrdersHeld
import Derived.Laws.BitsLemmas
import Derived.RowKit
import Derived.Shelf.Abstract
import Derived.Test.YtikjdmiohpdnaaaC5zH0
import Derived.Laws.EntriesVeiled
import Derived.Test.YtikjdmiohpdnaaaC5zWWords
import Derived.Test.YtikjdmiohpdnaaaC5zWLast
import Derived.Test.YtikjdmiohpdnaaaC5zWTab
import Derived.Test.YtikjdmiohpdnaaaC5zWFour
import Derived.Test.YtikjdmiohpdnaaaC5zWQPut
import Derived.Test.YtikjdmiohpdnaaaC5zWApart
import Derived.Test.YtikjdmiohpdnaaaC5zWArr
import Derived.Test.YtikjdmiohpdnaaaC5zWZeros
import Derived.Test.YtikjdmiohpdnaaaC5zWFoot
import Derived.Test.YtikjdmiohpdnaaaC5zWKept
import Derived.Test.YtikjdmiohpdnaaaC5zWShare
import Derived.Test.YtikjdmiohpdnaaaC5zWN
import Derived.Test.YtikjdmiohpdnaaaC5zWFootNe
import Derived.Test.YtikjdmiohpdnaaaC5zWAt
import Derived.Test.YtikjdmiohpdnaaaC5zWEqStruct
import Derived.Test.YtikjdmiohpdnaaaC5zWRepsOne
import Derived.Test.YtikjdmiohpdnaaaC5zWInv
import Derived.Test.YtikjdmiohpdnaaaC5zWInvWords
import Derived.Test.YtikjdmiohpdnaaaC5zWGuard
import Derived.Test.YtikjdmiohpdnaaaC5zWNEv
import Derived.Test.YtikjdmiohpdnaaaC5zWMore
import Derived.Test.YtikjdmiohpdnaaaC5zAl
namespace Go.Proofs.Ytikjdmiohpdnaaa.C5
open Go.RowKit Go.Proofs.YtikjdmiohpdnaaaW.PrintWords Go.Proofs.YtikjdmiohpdnaaaW.PrintLast Go.Proofs.YtikjdmiohpdnaaaW.PrintMore Go.Proofs.Ytikjdmiohpdnaaa.H
attribute [local go_sem] max2_int min2_int max_two min_two max_three min_three max_four min_four
set_option linter.unusedVariables false
set_option linter.unusedSimpArgs false
def errW : Option Int → Value
 | none => .nilIface
 | some c => .iface 0 (.int .i64 c)
theorem errW_none : errW none = .nilIface := rfl
theorem errW_some (c : Int) : errW (some c) = .iface 0 (.int .i64 c) := rfl
theorem info3 : (Try.prog.info? 3).map (fun i => (i.zero, i.size, i.bytes)) = some (some (.int .i64 0), 1, 8) := by kernel_rfl
theorem info4 : (Try.prog.info? 4).map (fun i => (i.zero, i.size, i.bytes)) = some (some (.bool false), 1, 1) := by kernel_rfl
structure S38 where
 f0 : (List Bool)
 f1 : Bool
structure S29 where
 f0 : (List Int)
 f1 : (List Bool)
 f2 : Int
end Go.Proofs.Ytikjdmiohpdnaaa.C5
