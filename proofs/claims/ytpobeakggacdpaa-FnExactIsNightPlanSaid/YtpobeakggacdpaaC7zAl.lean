import Derived.Test.YtpobeakggacdpaaC7zWWords
import Derived.Test.YtpobeakggacdpaaC7zWLast
import Derived.Test.YtpobeakggacdpaaC7zWTab
import Derived.Test.YtpobeakggacdpaaC7zWFour
import Derived.Test.YtpobeakggacdpaaC7zWQPut
import Derived.Test.YtpobeakggacdpaaC7zWApart
import Derived.Test.YtpobeakggacdpaaC7zWArr
import Derived.Test.YtpobeakggacdpaaC7zWZeros
import Derived.Test.YtpobeakggacdpaaC7zWFoot
import Derived.Test.YtpobeakggacdpaaC7zWKept
import Derived.Test.YtpobeakggacdpaaC7zWShare
import Derived.Test.YtpobeakggacdpaaC7zWN
import Derived.Test.YtpobeakggacdpaaC7zWFootNe
import Derived.Test.YtpobeakggacdpaaC7zWAt
import Derived.Test.YtpobeakggacdpaaC7zWEqStruct
import Derived.Test.YtpobeakggacdpaaC7zWRepsOne
import Derived.Test.YtpobeakggacdpaaC7zWInv
import Derived.Test.YtpobeakggacdpaaC7zWInvWords
import Derived.Test.YtpobeakggacdpaaC7zWGuard
import Derived.Test.YtpobeakggacdpaaC7zWNEv
import Derived.Test.YtpobeakggacdpaaC7zWMore
import Derived.Shelf.Abstract
import Derived.WalkSpells
import Derived.Laws.CopyOwn
namespace Go.Proofs.Ytpobeakggacdpaa.H
open Go.RowKit Go.Proofs.YtpobeakggacdpaaW.PrintWords Go.Proofs.YtpobeakggacdpaaW.PrintLast Go.Proofs.YtpobeakggacdpaaW.PrintMore
abbrev ba' := @below_alloc
abbrev bd' := @pw_below_drewN
abbrev be' := @below_drew1
abbrev bs' := @below_set
abbrev kn' := @blk_drewN
abbrev kd' := @blk_drew
abbrev ka' := @blk_alloc
abbrev ra' := @Kd.R_alloc
abbrev rn' := @Kd.R_drewN
abbrev rw' := @Kd.R_drew
abbrev ca' := @Kd.C_alloc
abbrev cn' := @Kd.C_drewN
abbrev cd' := @Kd.C_drew
abbrev am' := @Aside0.mk
abbrev sa' := @List.setIfInBounds_toArray
abbrev sb' := @List.set_cons_zero
abbrev sc' := @List.set_cons_succ
abbrev bl' := @World.block_lt_of_cell?
end Go.Proofs.Ytpobeakggacdpaa.H
