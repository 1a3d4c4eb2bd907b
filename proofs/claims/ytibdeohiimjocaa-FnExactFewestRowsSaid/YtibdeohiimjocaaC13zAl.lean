import Derived.Test.YtibdeohiimjocaaC13zWWords
import Derived.Test.YtibdeohiimjocaaC13zWLast
import Derived.Test.YtibdeohiimjocaaC13zWTab
import Derived.Test.YtibdeohiimjocaaC13zWFour
import Derived.Test.YtibdeohiimjocaaC13zWQPut
import Derived.Test.YtibdeohiimjocaaC13zWApart
import Derived.Test.YtibdeohiimjocaaC13zWArr
import Derived.Test.YtibdeohiimjocaaC13zWZeros
import Derived.Test.YtibdeohiimjocaaC13zWFoot
import Derived.Test.YtibdeohiimjocaaC13zWKept
import Derived.Test.YtibdeohiimjocaaC13zWShare
import Derived.Test.YtibdeohiimjocaaC13zWN
import Derived.Test.YtibdeohiimjocaaC13zWFootNe
import Derived.Test.YtibdeohiimjocaaC13zWAt
import Derived.Test.YtibdeohiimjocaaC13zWEqStruct
import Derived.Test.YtibdeohiimjocaaC13zWRepsOne
import Derived.Test.YtibdeohiimjocaaC13zWInv
import Derived.Test.YtibdeohiimjocaaC13zWInvWords
import Derived.Test.YtibdeohiimjocaaC13zWGuard
import Derived.Test.YtibdeohiimjocaaC13zWNEv
import Derived.Test.YtibdeohiimjocaaC13zWMore
import Derived.Test.YtibdeohiimjocaaC13zHG
import Derived.Shelf.Abstract
import Derived.WalkSpells
import Derived.Laws.CopyOwn
namespace Go.Proofs.Ytibdeohiimjocaa.H
open Go.RowKit Go.Proofs.YtibdeohiimjocaaW.PrintWords Go.Proofs.YtibdeohiimjocaaW.PrintLast Go.Proofs.YtibdeohiimjocaaW.PrintMore
abbrev ba' := @below_alloc
abbrev bd' := @pw_below_drewN
abbrev be' := @below_drew1
abbrev bs' := @below_set
abbrev kn' := @blk_drewN
abbrev kd' := @blk_drew
abbrev ka' := @blk_alloc
abbrev ra' := @Kd.R_alloc
abbrev rn' := @Kd.R_drewN
abbrev rw' := @Kd.R_drew
abbrev ca' := @Kd.C_alloc
abbrev cn' := @Kd.C_drewN
abbrev cd' := @Kd.C_drew
abbrev am' := @Aside0.mk
abbrev sa' := @List.setIfInBounds_toArray
abbrev sb' := @List.set_cons_zero
abbrev sc' := @List.set_cons_succ
abbrev bl' := @World.block_lt_of_cell?
end Go.Proofs.Ytibdeohiimjocaa.H
