import Derived.Test.YtibdeohiimjocaaC17zWWords
import Derived.Test.YtibdeohiimjocaaC17zWLast
import Derived.Test.YtibdeohiimjocaaC17zWTab
import Derived.Test.YtibdeohiimjocaaC17zWFour
import Derived.Test.YtibdeohiimjocaaC17zWQPut
import Derived.Test.YtibdeohiimjocaaC17zWApart
import Derived.Test.YtibdeohiimjocaaC17zWArr
import Derived.Test.YtibdeohiimjocaaC17zWZeros
import Derived.Test.YtibdeohiimjocaaC17zWFoot
import Derived.Test.YtibdeohiimjocaaC17zWKept
import Derived.Test.YtibdeohiimjocaaC17zWShare
import Derived.Test.YtibdeohiimjocaaC17zWN
import Derived.Test.YtibdeohiimjocaaC17zWFootNe
import Derived.Test.YtibdeohiimjocaaC17zWAt
import Derived.Test.YtibdeohiimjocaaC17zWEqStruct
import Derived.Test.YtibdeohiimjocaaC17zWRepsOne
import Derived.Test.YtibdeohiimjocaaC17zWInv
import Derived.Test.YtibdeohiimjocaaC17zWInvWords
import Derived.Test.YtibdeohiimjocaaC17zWGuard
import Derived.Test.YtibdeohiimjocaaC17zWNEv
import Derived.Test.YtibdeohiimjocaaC17zWMore
import Derived.Test.YtibdeohiimjocaaC17zHG
import Derived.Shelf.Abstract
import Derived.WalkSpells
import Derived.Laws.CopyOwn
namespace Go.Proofs.Ytibdeohiimjocaa.H
open Go.RowKit Go.Proofs.YtibdeohiimjocaaW.PrintWords Go.Proofs.YtibdeohiimjocaaW.PrintLast Go.Proofs.YtibdeohiimjocaaW.PrintMore
abbrev ba' := @below_alloc
abbrev bd' := @pw_below_drewN
abbrev be' := @below_drew1
abbrev bs' := @below_set
abbrev ka' := @blk_alloc
abbrev ra' := @Kd.R_alloc
abbrev rn' := @Kd.R_drewN
abbrev rw' := @Kd.R_drew
abbrev ca' := @Kd.C_alloc
abbrev cn' := @Kd.C_drewN
abbrev cd' := @Kd.C_drew
abbrev am' := @Aside0.mk
abbrev sa' := @List.setIfInBounds_toArray
abbrev sb' := @List.set_cons_zero
abbrev sc' := @List.set_cons_succ
abbrev bl' := @World.block_lt_of_cell?
end Go.Proofs.Ytibdeohiimjocaa.H
