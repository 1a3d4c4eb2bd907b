import Derived.Test.YtpobeakggacdpaaC6zWWords
import Derived.Test.YtpobeakggacdpaaC6zWLast
import Derived.Test.YtpobeakggacdpaaC6zWTab
import Derived.Test.YtpobeakggacdpaaC6zWFour
import Derived.Test.YtpobeakggacdpaaC6zWQPut
import Derived.Test.YtpobeakggacdpaaC6zWApart
import Derived.Test.YtpobeakggacdpaaC6zWArr
import Derived.Test.YtpobeakggacdpaaC6zWZeros
import Derived.Test.YtpobeakggacdpaaC6zWFoot
import Derived.Test.YtpobeakggacdpaaC6zWKept
import Derived.Test.YtpobeakggacdpaaC6zWShare
import Derived.Test.YtpobeakggacdpaaC6zWN
import Derived.Test.YtpobeakggacdpaaC6zWFootNe
import Derived.Test.YtpobeakggacdpaaC6zWAt
import Derived.Test.YtpobeakggacdpaaC6zWEqStruct
import Derived.Test.YtpobeakggacdpaaC6zWRepsOne
import Derived.Test.YtpobeakggacdpaaC6zWInv
import Derived.Test.YtpobeakggacdpaaC6zWInvWords
import Derived.Test.YtpobeakggacdpaaC6zWGuard
import Derived.Test.YtpobeakggacdpaaC6zWNEv
import Derived.Test.YtpobeakggacdpaaC6zWMore
import Derived.Shelf.Abstract
import Derived.WalkSpells
import Derived.Laws.CopyOwn
namespace Go.Proofs.Ytpobeakggacdpaa.H
open Go.RowKit Go.Proofs.YtpobeakggacdpaaW.PrintWords Go.Proofs.YtpobeakggacdpaaW.PrintLast Go.Proofs.YtpobeakggacdpaaW.PrintMore
abbrev ba' := @below_alloc
abbrev bd' := @pw_below_drewN
abbrev be' := @below_drew1
abbrev bs' := @below_set
abbrev kn' := @blk_drewN
abbrev kd' := @blk_drew
abbrev ka' := @blk_alloc
abbrev ra' := @Kd.R_alloc
abbrev rn' := @Kd.R_drewN
abbrev rw' := @Kd.R_drew
abbrev ca' := @Kd.C_alloc
abbrev cn' := @Kd.C_drewN
abbrev cd' := @Kd.C_drew
abbrev am' := @Aside0.mk
abbrev sa' := @List.setIfInBounds_toArray
abbrev sb' := @List.set_cons_zero
abbrev sc' := @List.set_cons_succ
abbrev bl' := @World.block_lt_of_cell?
end Go.Proofs.Ytpobeakggacdpaa.H
