import Derived.Test.YtpobeakggacdpaaC10zWWords
import Derived.Test.YtpobeakggacdpaaC10zWLast
import Derived.Test.YtpobeakggacdpaaC10zWTab
import Derived.Test.YtpobeakggacdpaaC10zWFour
import Derived.Test.YtpobeakggacdpaaC10zWQPut
import Derived.Test.YtpobeakggacdpaaC10zWApart
import Derived.Test.YtpobeakggacdpaaC10zWArr
import Derived.Test.YtpobeakggacdpaaC10zWZeros
import Derived.Test.YtpobeakggacdpaaC10zWFoot
import Derived.Test.YtpobeakggacdpaaC10zWKept
import Derived.Test.YtpobeakggacdpaaC10zWShare
import Derived.Test.YtpobeakggacdpaaC10zWN
import Derived.Test.YtpobeakggacdpaaC10zWFootNe
import Derived.Test.YtpobeakggacdpaaC10zWAt
import Derived.Test.YtpobeakggacdpaaC10zWEqStruct
import Derived.Test.YtpobeakggacdpaaC10zWRepsOne
import Derived.Test.YtpobeakggacdpaaC10zWInv
import Derived.Test.YtpobeakggacdpaaC10zWInvWords
import Derived.Test.YtpobeakggacdpaaC10zWGuard
import Derived.Test.YtpobeakggacdpaaC10zWNEv
import Derived.Test.YtpobeakggacdpaaC10zWMore
import Derived.Shelf.Abstract
import Derived.WalkSpells
import Derived.Laws.CopyOwn
namespace Go.Proofs.Ytpobeakggacdpaa.H
open Go.RowKit Go.Proofs.YtpobeakggacdpaaW.PrintWords Go.Proofs.YtpobeakggacdpaaW.PrintLast Go.Proofs.YtpobeakggacdpaaW.PrintMore
abbrev ba' := @below_alloc
abbrev bd' := @pw_below_drewN
abbrev be' := @below_drew1
abbrev bs' := @below_set
abbrev kn' := @blk_drewN
abbrev kd' := @blk_drew
abbrev ka' := @blk_alloc
abbrev ra' := @Kd.R_alloc
abbrev rn' := @Kd.R_drewN
abbrev rw' := @Kd.R_drew
abbrev ca' := @Kd.C_alloc
abbrev cn' := @Kd.C_drewN
abbrev cd' := @Kd.C_drew
abbrev am' := @Aside0.mk
abbrev sa' := @List.setIfInBounds_toArray
abbrev sb' := @List.set_cons_zero
abbrev sc' := @List.set_cons_succ
abbrev bl' := @World.block_lt_of_cell?
end Go.Proofs.Ytpobeakggacdpaa.H
