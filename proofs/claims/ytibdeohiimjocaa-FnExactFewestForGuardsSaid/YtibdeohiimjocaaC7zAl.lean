import Derived.Test.YtibdeohiimjocaaC7zWWords
import Derived.Test.YtibdeohiimjocaaC7zWLast
import Derived.Test.YtibdeohiimjocaaC7zWTab
import Derived.Test.YtibdeohiimjocaaC7zWFour
import Derived.Test.YtibdeohiimjocaaC7zWQPut
import Derived.Test.YtibdeohiimjocaaC7zWApart
import Derived.Test.YtibdeohiimjocaaC7zWArr
import Derived.Test.YtibdeohiimjocaaC7zWZeros
import Derived.Test.YtibdeohiimjocaaC7zWFoot
import Derived.Test.YtibdeohiimjocaaC7zWKept
import Derived.Test.YtibdeohiimjocaaC7zWShare
import Derived.Test.YtibdeohiimjocaaC7zWN
import Derived.Test.YtibdeohiimjocaaC7zWFootNe
import Derived.Test.YtibdeohiimjocaaC7zWAt
import Derived.Test.YtibdeohiimjocaaC7zWEqStruct
import Derived.Test.YtibdeohiimjocaaC7zWRepsOne
import Derived.Test.YtibdeohiimjocaaC7zWInv
import Derived.Test.YtibdeohiimjocaaC7zWInvWords
import Derived.Test.YtibdeohiimjocaaC7zWGuard
import Derived.Test.YtibdeohiimjocaaC7zWNEv
import Derived.Test.YtibdeohiimjocaaC7zWMore
import Derived.Test.YtibdeohiimjocaaC7zHG
import Derived.Shelf.Abstract
import Derived.WalkSpells
import Derived.Laws.CopyOwn
namespace Go.Proofs.Ytibdeohiimjocaa.H
open Go.RowKit Go.Proofs.YtibdeohiimjocaaW.PrintWords Go.Proofs.YtibdeohiimjocaaW.PrintLast Go.Proofs.YtibdeohiimjocaaW.PrintMore
abbrev ba' := @below_alloc
abbrev bd' := @pw_below_drewN
abbrev be' := @below_drew1
abbrev bs' := @below_set
abbrev ka' := @blk_alloc
abbrev ra' := @Kd.R_alloc
abbrev rn' := @Kd.R_drewN
abbrev rw' := @Kd.R_drew
abbrev am' := @Aside0.mk
abbrev sa' := @List.setIfInBounds_toArray
abbrev sb' := @List.set_cons_zero
abbrev sc' := @List.set_cons_succ
abbrev bl' := @World.block_lt_of_cell?
end Go.Proofs.Ytibdeohiimjocaa.H
