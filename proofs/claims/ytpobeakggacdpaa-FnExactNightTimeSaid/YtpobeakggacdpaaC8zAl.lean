import Derived.Test.YtpobeakggacdpaaC8zWWords
import Derived.Test.YtpobeakggacdpaaC8zWLast
import Derived.Test.YtpobeakggacdpaaC8zWTab
import Derived.Test.YtpobeakggacdpaaC8zWFour
import Derived.Test.YtpobeakggacdpaaC8zWQPut
import Derived.Test.YtpobeakggacdpaaC8zWApart
import Derived.Test.YtpobeakggacdpaaC8zWArr
import Derived.Test.YtpobeakggacdpaaC8zWZeros
import Derived.Test.YtpobeakggacdpaaC8zWFoot
import Derived.Test.YtpobeakggacdpaaC8zWKept
import Derived.Test.YtpobeakggacdpaaC8zWShare
import Derived.Test.YtpobeakggacdpaaC8zWN
import Derived.Test.YtpobeakggacdpaaC8zWFootNe
import Derived.Test.YtpobeakggacdpaaC8zWAt
import Derived.Test.YtpobeakggacdpaaC8zWEqStruct
import Derived.Test.YtpobeakggacdpaaC8zWRepsOne
import Derived.Test.YtpobeakggacdpaaC8zWInv
import Derived.Test.YtpobeakggacdpaaC8zWInvWords
import Derived.Test.YtpobeakggacdpaaC8zWGuard
import Derived.Test.YtpobeakggacdpaaC8zWNEv
import Derived.Test.YtpobeakggacdpaaC8zWMore
import Derived.Shelf.Abstract
import Derived.WalkSpells
import Derived.Laws.CopyOwn
namespace Go.Proofs.Ytpobeakggacdpaa.H
open Go.RowKit Go.Proofs.YtpobeakggacdpaaW.PrintWords Go.Proofs.YtpobeakggacdpaaW.PrintLast Go.Proofs.YtpobeakggacdpaaW.PrintMore
abbrev ba' := @below_alloc
abbrev bd' := @pw_below_drewN
abbrev be' := @below_drew1
abbrev bs' := @below_set
abbrev kn' := @blk_drewN
abbrev kd' := @blk_drew
abbrev ka' := @blk_alloc
abbrev ra' := @Kd.R_alloc
abbrev rn' := @Kd.R_drewN
abbrev rw' := @Kd.R_drew
abbrev ca' := @Kd.C_alloc
abbrev cn' := @Kd.C_drewN
abbrev cd' := @Kd.C_drew
abbrev am' := @Aside0.mk
abbrev sa' := @List.setIfInBounds_toArray
abbrev sb' := @List.set_cons_zero
abbrev sc' := @List.set_cons_succ
abbrev bl' := @World.block_lt_of_cell?
end Go.Proofs.Ytpobeakggacdpaa.H
