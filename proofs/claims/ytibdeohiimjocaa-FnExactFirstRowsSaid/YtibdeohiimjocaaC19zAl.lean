import Derived.Test.YtibdeohiimjocaaC19zWWords
import Derived.Test.YtibdeohiimjocaaC19zWLast
import Derived.Test.YtibdeohiimjocaaC19zWTab
import Derived.Test.YtibdeohiimjocaaC19zWFour
import Derived.Test.YtibdeohiimjocaaC19zWQPut
import Derived.Test.YtibdeohiimjocaaC19zWApart
import Derived.Test.YtibdeohiimjocaaC19zWArr
import Derived.Test.YtibdeohiimjocaaC19zWZeros
import Derived.Test.YtibdeohiimjocaaC19zWFoot
import Derived.Test.YtibdeohiimjocaaC19zWKept
import Derived.Test.YtibdeohiimjocaaC19zWShare
import Derived.Test.YtibdeohiimjocaaC19zWN
import Derived.Test.YtibdeohiimjocaaC19zWFootNe
import Derived.Test.YtibdeohiimjocaaC19zWAt
import Derived.Test.YtibdeohiimjocaaC19zWEqStruct
import Derived.Test.YtibdeohiimjocaaC19zWRepsOne
import Derived.Test.YtibdeohiimjocaaC19zWInv
import Derived.Test.YtibdeohiimjocaaC19zWInvWords
import Derived.Test.YtibdeohiimjocaaC19zWGuard
import Derived.Test.YtibdeohiimjocaaC19zWNEv
import Derived.Test.YtibdeohiimjocaaC19zWMore
import Derived.Test.YtibdeohiimjocaaC19zHG
import Derived.Shelf.Abstract
import Derived.WalkSpells
import Derived.Laws.CopyOwn
namespace Go.Proofs.Ytibdeohiimjocaa.H
open Go.RowKit Go.Proofs.YtibdeohiimjocaaW.PrintWords Go.Proofs.YtibdeohiimjocaaW.PrintLast Go.Proofs.YtibdeohiimjocaaW.PrintMore
abbrev ba' := @below_alloc
abbrev bd' := @pw_below_drewN
abbrev be' := @below_drew1
abbrev bs' := @below_set
abbrev kn' := @blk_drewN
abbrev kd' := @blk_drew
abbrev ka' := @blk_alloc
abbrev ra' := @Kd.R_alloc
abbrev rn' := @Kd.R_drewN
abbrev rw' := @Kd.R_drew
abbrev ca' := @Kd.C_alloc
abbrev cn' := @Kd.C_drewN
abbrev cd' := @Kd.C_drew
abbrev am' := @Aside0.mk
abbrev sa' := @List.setIfInBounds_toArray
abbrev sb' := @List.set_cons_zero
abbrev sc' := @List.set_cons_succ
abbrev bl' := @World.block_lt_of_cell?
end Go.Proofs.Ytibdeohiimjocaa.H
