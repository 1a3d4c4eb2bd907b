import Derived.Test.YtibdeohiimjocaaC16zWWords
import Derived.Test.YtibdeohiimjocaaC16zWLast
import Derived.Test.YtibdeohiimjocaaC16zWTab
import Derived.Test.YtibdeohiimjocaaC16zWFour
import Derived.Test.YtibdeohiimjocaaC16zWQPut
import Derived.Test.YtibdeohiimjocaaC16zWApart
import Derived.Test.YtibdeohiimjocaaC16zWArr
import Derived.Test.YtibdeohiimjocaaC16zWZeros
import Derived.Test.YtibdeohiimjocaaC16zWFoot
import Derived.Test.YtibdeohiimjocaaC16zWKept
import Derived.Test.YtibdeohiimjocaaC16zWShare
import Derived.Test.YtibdeohiimjocaaC16zWN
import Derived.Test.YtibdeohiimjocaaC16zWFootNe
import Derived.Test.YtibdeohiimjocaaC16zWAt
import Derived.Test.YtibdeohiimjocaaC16zWEqStruct
import Derived.Test.YtibdeohiimjocaaC16zWRepsOne
import Derived.Test.YtibdeohiimjocaaC16zWInv
import Derived.Test.YtibdeohiimjocaaC16zWInvWords
import Derived.Test.YtibdeohiimjocaaC16zWGuard
import Derived.Test.YtibdeohiimjocaaC16zWNEv
import Derived.Test.YtibdeohiimjocaaC16zWMore
import Derived.Test.YtibdeohiimjocaaC16zHG
import Derived.Shelf.Abstract
import Derived.WalkSpells
import Derived.Laws.CopyOwn
namespace Go.Proofs.Ytibdeohiimjocaa.H
open Go.RowKit Go.Proofs.YtibdeohiimjocaaW.PrintWords Go.Proofs.YtibdeohiimjocaaW.PrintLast Go.Proofs.YtibdeohiimjocaaW.PrintMore
abbrev ba' := @below_alloc
abbrev bd' := @pw_below_drewN
abbrev be' := @below_drew1
abbrev bs' := @below_set
abbrev kn' := @blk_drewN
abbrev kd' := @blk_drew
abbrev ka' := @blk_alloc
abbrev ra' := @Kd.R_alloc
abbrev rn' := @Kd.R_drewN
abbrev rw' := @Kd.R_drew
abbrev ca' := @Kd.C_alloc
abbrev cn' := @Kd.C_drewN
abbrev cd' := @Kd.C_drew
abbrev am' := @Aside0.mk
abbrev sa' := @List.setIfInBounds_toArray
abbrev sb' := @List.set_cons_zero
abbrev sc' := @List.set_cons_succ
abbrev bl' := @World.block_lt_of_cell?
end Go.Proofs.Ytibdeohiimjocaa.H
