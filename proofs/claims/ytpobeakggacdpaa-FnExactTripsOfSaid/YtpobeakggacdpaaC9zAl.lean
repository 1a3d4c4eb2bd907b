import Derived.Test.YtpobeakggacdpaaC9zWWords
import Derived.Test.YtpobeakggacdpaaC9zWLast
import Derived.Test.YtpobeakggacdpaaC9zWTab
import Derived.Test.YtpobeakggacdpaaC9zWFour
import Derived.Test.YtpobeakggacdpaaC9zWQPut
import Derived.Test.YtpobeakggacdpaaC9zWApart
import Derived.Test.YtpobeakggacdpaaC9zWArr
import Derived.Test.YtpobeakggacdpaaC9zWZeros
import Derived.Test.YtpobeakggacdpaaC9zWFoot
import Derived.Test.YtpobeakggacdpaaC9zWKept
import Derived.Test.YtpobeakggacdpaaC9zWShare
import Derived.Test.YtpobeakggacdpaaC9zWN
import Derived.Test.YtpobeakggacdpaaC9zWFootNe
import Derived.Test.YtpobeakggacdpaaC9zWAt
import Derived.Test.YtpobeakggacdpaaC9zWEqStruct
import Derived.Test.YtpobeakggacdpaaC9zWRepsOne
import Derived.Test.YtpobeakggacdpaaC9zWInv
import Derived.Test.YtpobeakggacdpaaC9zWInvWords
import Derived.Test.YtpobeakggacdpaaC9zWGuard
import Derived.Test.YtpobeakggacdpaaC9zWNEv
import Derived.Test.YtpobeakggacdpaaC9zWMore
import Derived.Shelf.Abstract
import Derived.WalkSpells
import Derived.Laws.CopyOwn
namespace Go.Proofs.Ytpobeakggacdpaa.H
open Go.RowKit Go.Proofs.YtpobeakggacdpaaW.PrintWords Go.Proofs.YtpobeakggacdpaaW.PrintLast Go.Proofs.YtpobeakggacdpaaW.PrintMore
abbrev ba' := @below_alloc
abbrev bd' := @pw_below_drewN
abbrev be' := @below_drew1
abbrev bs' := @below_set
abbrev kn' := @blk_drewN
abbrev kd' := @blk_drew
abbrev ka' := @blk_alloc
abbrev ra' := @Kd.R_alloc
abbrev rn' := @Kd.R_drewN
abbrev rw' := @Kd.R_drew
abbrev ca' := @Kd.C_alloc
abbrev cn' := @Kd.C_drewN
abbrev cd' := @Kd.C_drew
abbrev am' := @Aside0.mk
abbrev sa' := @List.setIfInBounds_toArray
abbrev sb' := @List.set_cons_zero
abbrev sc' := @List.set_cons_succ
abbrev bl' := @World.block_lt_of_cell?
end Go.Proofs.Ytpobeakggacdpaa.H
