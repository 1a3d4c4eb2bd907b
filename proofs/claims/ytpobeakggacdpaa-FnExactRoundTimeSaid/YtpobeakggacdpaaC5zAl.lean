import Derived.Test.YtpobeakggacdpaaC5zWWords
import Derived.Test.YtpobeakggacdpaaC5zWLast
import Derived.Test.YtpobeakggacdpaaC5zWTab
import Derived.Test.YtpobeakggacdpaaC5zWFour
import Derived.Test.YtpobeakggacdpaaC5zWQPut
import Derived.Test.YtpobeakggacdpaaC5zWApart
import Derived.Test.YtpobeakggacdpaaC5zWArr
import Derived.Test.YtpobeakggacdpaaC5zWZeros
import Derived.Test.YtpobeakggacdpaaC5zWFoot
import Derived.Test.YtpobeakggacdpaaC5zWKept
import Derived.Test.YtpobeakggacdpaaC5zWShare
import Derived.Test.YtpobeakggacdpaaC5zWN
import Derived.Test.YtpobeakggacdpaaC5zWFootNe
import Derived.Test.YtpobeakggacdpaaC5zWAt
import Derived.Test.YtpobeakggacdpaaC5zWEqStruct
import Derived.Test.YtpobeakggacdpaaC5zWRepsOne
import Derived.Test.YtpobeakggacdpaaC5zWInv
import Derived.Test.YtpobeakggacdpaaC5zWInvWords
import Derived.Test.YtpobeakggacdpaaC5zWGuard
import Derived.Test.YtpobeakggacdpaaC5zWNEv
import Derived.Test.YtpobeakggacdpaaC5zWMore
import Derived.Shelf.Abstract
import Derived.WalkSpells
import Derived.Laws.CopyOwn
namespace Go.Proofs.Ytpobeakggacdpaa.H
open Go.RowKit Go.Proofs.YtpobeakggacdpaaW.PrintWords Go.Proofs.YtpobeakggacdpaaW.PrintLast Go.Proofs.YtpobeakggacdpaaW.PrintMore
abbrev ba' := @below_alloc
abbrev bd' := @pw_below_drewN
abbrev be' := @below_drew1
abbrev bs' := @below_set
abbrev kn' := @blk_drewN
abbrev kd' := @blk_drew
abbrev ka' := @blk_alloc
abbrev ra' := @Kd.R_alloc
abbrev rn' := @Kd.R_drewN
abbrev rw' := @Kd.R_drew
abbrev ca' := @Kd.C_alloc
abbrev cn' := @Kd.C_drewN
abbrev cd' := @Kd.C_drew
abbrev am' := @Aside0.mk
abbrev sa' := @List.setIfInBounds_toArray
abbrev sb' := @List.set_cons_zero
abbrev sc' := @List.set_cons_succ
abbrev bl' := @World.block_lt_of_cell?
end Go.Proofs.Ytpobeakggacdpaa.H
