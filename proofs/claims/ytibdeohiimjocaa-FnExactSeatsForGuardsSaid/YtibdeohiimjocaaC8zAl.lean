import Derived.Test.YtibdeohiimjocaaC8zWWords
import Derived.Test.YtibdeohiimjocaaC8zWLast
import Derived.Test.YtibdeohiimjocaaC8zWTab
import Derived.Test.YtibdeohiimjocaaC8zWFour
import Derived.Test.YtibdeohiimjocaaC8zWQPut
import Derived.Test.YtibdeohiimjocaaC8zWApart
import Derived.Test.YtibdeohiimjocaaC8zWArr
import Derived.Test.YtibdeohiimjocaaC8zWZeros
import Derived.Test.YtibdeohiimjocaaC8zWFoot
import Derived.Test.YtibdeohiimjocaaC8zWKept
import Derived.Test.YtibdeohiimjocaaC8zWShare
import Derived.Test.YtibdeohiimjocaaC8zWN
import Derived.Test.YtibdeohiimjocaaC8zWFootNe
import Derived.Test.YtibdeohiimjocaaC8zWAt
import Derived.Test.YtibdeohiimjocaaC8zWEqStruct
import Derived.Test.YtibdeohiimjocaaC8zWRepsOne
import Derived.Test.YtibdeohiimjocaaC8zWInv
import Derived.Test.YtibdeohiimjocaaC8zWInvWords
import Derived.Test.YtibdeohiimjocaaC8zWGuard
import Derived.Test.YtibdeohiimjocaaC8zWNEv
import Derived.Test.YtibdeohiimjocaaC8zWMore
import Derived.Test.YtibdeohiimjocaaC8zHG
import Derived.Shelf.Abstract
import Derived.WalkSpells
import Derived.Laws.CopyOwn
namespace Go.Proofs.Ytibdeohiimjocaa.H
open Go.RowKit Go.Proofs.YtibdeohiimjocaaW.PrintWords Go.Proofs.YtibdeohiimjocaaW.PrintLast Go.Proofs.YtibdeohiimjocaaW.PrintMore
abbrev ba' := @below_alloc
abbrev bd' := @pw_below_drewN
abbrev be' := @below_drew1
abbrev bs' := @below_set
abbrev ka' := @blk_alloc
abbrev ra' := @Kd.R_alloc
abbrev rn' := @Kd.R_drewN
abbrev rw' := @Kd.R_drew
abbrev am' := @Aside0.mk
abbrev sa' := @List.setIfInBounds_toArray
abbrev sb' := @List.set_cons_zero
abbrev sc' := @List.set_cons_succ
abbrev bl' := @World.block_lt_of_cell?
end Go.Proofs.Ytibdeohiimjocaa.H
