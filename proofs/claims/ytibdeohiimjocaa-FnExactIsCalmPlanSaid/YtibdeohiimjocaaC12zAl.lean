import Derived.Test.YtibdeohiimjocaaC12zWWords
import Derived.Test.YtibdeohiimjocaaC12zWLast
import Derived.Test.YtibdeohiimjocaaC12zWTab
import Derived.Test.YtibdeohiimjocaaC12zWFour
import Derived.Test.YtibdeohiimjocaaC12zWQPut
import Derived.Test.YtibdeohiimjocaaC12zWApart
import Derived.Test.YtibdeohiimjocaaC12zWArr
import Derived.Test.YtibdeohiimjocaaC12zWZeros
import Derived.Test.YtibdeohiimjocaaC12zWFoot
import Derived.Test.YtibdeohiimjocaaC12zWKept
import Derived.Test.YtibdeohiimjocaaC12zWShare
import Derived.Test.YtibdeohiimjocaaC12zWN
import Derived.Test.YtibdeohiimjocaaC12zWFootNe
import Derived.Test.YtibdeohiimjocaaC12zWAt
import Derived.Test.YtibdeohiimjocaaC12zWEqStruct
import Derived.Test.YtibdeohiimjocaaC12zWRepsOne
import Derived.Test.YtibdeohiimjocaaC12zWInv
import Derived.Test.YtibdeohiimjocaaC12zWInvWords
import Derived.Test.YtibdeohiimjocaaC12zWGuard
import Derived.Test.YtibdeohiimjocaaC12zWNEv
import Derived.Test.YtibdeohiimjocaaC12zWMore
import Derived.Test.YtibdeohiimjocaaC12zHG
import Derived.Shelf.Abstract
import Derived.WalkSpells
import Derived.Laws.CopyOwn
namespace Go.Proofs.Ytibdeohiimjocaa.H
open Go.RowKit Go.Proofs.YtibdeohiimjocaaW.PrintWords Go.Proofs.YtibdeohiimjocaaW.PrintLast Go.Proofs.YtibdeohiimjocaaW.PrintMore
abbrev ba' := @below_alloc
abbrev bd' := @pw_below_drewN
abbrev be' := @below_drew1
abbrev bs' := @below_set
abbrev kn' := @blk_drewN
abbrev kd' := @blk_drew
abbrev ka' := @blk_alloc
abbrev ra' := @Kd.R_alloc
abbrev rn' := @Kd.R_drewN
abbrev rw' := @Kd.R_drew
abbrev ca' := @Kd.C_alloc
abbrev cn' := @Kd.C_drewN
abbrev cd' := @Kd.C_drew
abbrev am' := @Aside0.mk
abbrev sa' := @List.setIfInBounds_toArray
abbrev sb' := @List.set_cons_zero
abbrev sc' := @List.set_cons_succ
abbrev bl' := @World.block_lt_of_cell?
end Go.Proofs.Ytibdeohiimjocaa.H
