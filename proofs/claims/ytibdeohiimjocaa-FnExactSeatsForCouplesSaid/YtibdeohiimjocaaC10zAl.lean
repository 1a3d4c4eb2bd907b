import Derived.Test.YtibdeohiimjocaaC10zWWords
import Derived.Test.YtibdeohiimjocaaC10zWLast
import Derived.Test.YtibdeohiimjocaaC10zWTab
import Derived.Test.YtibdeohiimjocaaC10zWFour
import Derived.Test.YtibdeohiimjocaaC10zWQPut
import Derived.Test.YtibdeohiimjocaaC10zWApart
import Derived.Test.YtibdeohiimjocaaC10zWArr
import Derived.Test.YtibdeohiimjocaaC10zWZeros
import Derived.Test.YtibdeohiimjocaaC10zWFoot
import Derived.Test.YtibdeohiimjocaaC10zWKept
import Derived.Test.YtibdeohiimjocaaC10zWShare
import Derived.Test.YtibdeohiimjocaaC10zWN
import Derived.Test.YtibdeohiimjocaaC10zWFootNe
import Derived.Test.YtibdeohiimjocaaC10zWAt
import Derived.Test.YtibdeohiimjocaaC10zWEqStruct
import Derived.Test.YtibdeohiimjocaaC10zWRepsOne
import Derived.Test.YtibdeohiimjocaaC10zWInv
import Derived.Test.YtibdeohiimjocaaC10zWInvWords
import Derived.Test.YtibdeohiimjocaaC10zWGuard
import Derived.Test.YtibdeohiimjocaaC10zWNEv
import Derived.Test.YtibdeohiimjocaaC10zWMore
import Derived.Test.YtibdeohiimjocaaC10zHG
import Derived.Shelf.Abstract
import Derived.WalkSpells
import Derived.Laws.CopyOwn
namespace Go.Proofs.Ytibdeohiimjocaa.H
open Go.RowKit Go.Proofs.YtibdeohiimjocaaW.PrintWords Go.Proofs.YtibdeohiimjocaaW.PrintLast Go.Proofs.YtibdeohiimjocaaW.PrintMore
abbrev ba' := @below_alloc
abbrev bd' := @pw_below_drewN
abbrev be' := @below_drew1
abbrev bs' := @below_set
abbrev kn' := @blk_drewN
abbrev kd' := @blk_drew
abbrev ka' := @blk_alloc
abbrev ra' := @Kd.R_alloc
abbrev rn' := @Kd.R_drewN
abbrev rw' := @Kd.R_drew
abbrev ca' := @Kd.C_alloc
abbrev cn' := @Kd.C_drewN
abbrev cd' := @Kd.C_drew
abbrev am' := @Aside0.mk
abbrev sa' := @List.setIfInBounds_toArray
abbrev sb' := @List.set_cons_zero
abbrev sc' := @List.set_cons_succ
abbrev bl' := @World.block_lt_of_cell?
end Go.Proofs.Ytibdeohiimjocaa.H
