import Derived.Test.YtibdeohiimjocaaC11zWWords
import Derived.Test.YtibdeohiimjocaaC11zWLast
import Derived.Test.YtibdeohiimjocaaC11zWTab
import Derived.Test.YtibdeohiimjocaaC11zWFour
import Derived.Test.YtibdeohiimjocaaC11zWQPut
import Derived.Test.YtibdeohiimjocaaC11zWApart
import Derived.Test.YtibdeohiimjocaaC11zWArr
import Derived.Test.YtibdeohiimjocaaC11zWZeros
import Derived.Test.YtibdeohiimjocaaC11zWFoot
import Derived.Test.YtibdeohiimjocaaC11zWKept
import Derived.Test.YtibdeohiimjocaaC11zWShare
import Derived.Test.YtibdeohiimjocaaC11zWN
import Derived.Test.YtibdeohiimjocaaC11zWFootNe
import Derived.Test.YtibdeohiimjocaaC11zWAt
import Derived.Test.YtibdeohiimjocaaC11zWEqStruct
import Derived.Test.YtibdeohiimjocaaC11zWRepsOne
import Derived.Test.YtibdeohiimjocaaC11zWInv
import Derived.Test.YtibdeohiimjocaaC11zWInvWords
import Derived.Test.YtibdeohiimjocaaC11zWGuard
import Derived.Test.YtibdeohiimjocaaC11zWNEv
import Derived.Test.YtibdeohiimjocaaC11zWMore
import Derived.Test.YtibdeohiimjocaaC11zHG
import Derived.Shelf.Abstract
import Derived.WalkSpells
import Derived.Laws.CopyOwn
namespace Go.Proofs.Ytibdeohiimjocaa.H
open Go.RowKit Go.Proofs.YtibdeohiimjocaaW.PrintWords Go.Proofs.YtibdeohiimjocaaW.PrintLast Go.Proofs.YtibdeohiimjocaaW.PrintMore
abbrev ba' := @below_alloc
abbrev bd' := @pw_below_drewN
abbrev be' := @below_drew1
abbrev bs' := @below_set
abbrev kn' := @blk_drewN
abbrev kd' := @blk_drew
abbrev ka' := @blk_alloc
abbrev ra' := @Kd.R_alloc
abbrev rn' := @Kd.R_drewN
abbrev rw' := @Kd.R_drew
abbrev ca' := @Kd.C_alloc
abbrev cn' := @Kd.C_drewN
abbrev cd' := @Kd.C_drew
abbrev am' := @Aside0.mk
abbrev sa' := @List.setIfInBounds_toArray
abbrev sb' := @List.set_cons_zero
abbrev sc' := @List.set_cons_succ
abbrev bl' := @World.block_lt_of_cell?
end Go.Proofs.Ytibdeohiimjocaa.H
