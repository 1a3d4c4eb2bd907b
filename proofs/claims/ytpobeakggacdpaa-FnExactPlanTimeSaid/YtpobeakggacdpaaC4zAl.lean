import Derived.Test.YtpobeakggacdpaaC4zWWords
import Derived.Test.YtpobeakggacdpaaC4zWLast
import Derived.Test.YtpobeakggacdpaaC4zWTab
import Derived.Test.YtpobeakggacdpaaC4zWFour
import Derived.Test.YtpobeakggacdpaaC4zWQPut
import Derived.Test.YtpobeakggacdpaaC4zWApart
import Derived.Test.YtpobeakggacdpaaC4zWArr
import Derived.Test.YtpobeakggacdpaaC4zWZeros
import Derived.Test.YtpobeakggacdpaaC4zWFoot
import Derived.Test.YtpobeakggacdpaaC4zWKept
import Derived.Test.YtpobeakggacdpaaC4zWShare
import Derived.Test.YtpobeakggacdpaaC4zWN
import Derived.Test.YtpobeakggacdpaaC4zWFootNe
import Derived.Test.YtpobeakggacdpaaC4zWAt
import Derived.Test.YtpobeakggacdpaaC4zWEqStruct
import Derived.Test.YtpobeakggacdpaaC4zWRepsOne
import Derived.Test.YtpobeakggacdpaaC4zWInv
import Derived.Test.YtpobeakggacdpaaC4zWInvWords
import Derived.Test.YtpobeakggacdpaaC4zWGuard
import Derived.Test.YtpobeakggacdpaaC4zWNEv
import Derived.Test.YtpobeakggacdpaaC4zWMore
import Derived.Shelf.Abstract
import Derived.WalkSpells
import Derived.Laws.CopyOwn
namespace Go.Proofs.Ytpobeakggacdpaa.H
open Go.RowKit Go.Proofs.YtpobeakggacdpaaW.PrintWords Go.Proofs.YtpobeakggacdpaaW.PrintLast Go.Proofs.YtpobeakggacdpaaW.PrintMore
abbrev ba' := @below_alloc
abbrev bd' := @pw_below_drewN
abbrev be' := @below_drew1
abbrev bs' := @below_set
abbrev kn' := @blk_drewN
abbrev kd' := @blk_drew
abbrev ka' := @blk_alloc
abbrev ra' := @Kd.R_alloc
abbrev rn' := @Kd.R_drewN
abbrev rw' := @Kd.R_drew
abbrev ca' := @Kd.C_alloc
abbrev cn' := @Kd.C_drewN
abbrev cd' := @Kd.C_drew
abbrev am' := @Aside0.mk
abbrev sa' := @List.setIfInBounds_toArray
abbrev sb' := @List.set_cons_zero
abbrev sc' := @List.set_cons_succ
abbrev bl' := @World.block_lt_of_cell?
end Go.Proofs.Ytpobeakggacdpaa.H
