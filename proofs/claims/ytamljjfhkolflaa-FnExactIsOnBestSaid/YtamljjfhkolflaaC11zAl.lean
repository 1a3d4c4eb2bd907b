import Derived.Test.YtamljjfhkolflaaC11zWWords
import Derived.Test.YtamljjfhkolflaaC11zWLast
import Derived.Test.YtamljjfhkolflaaC11zWTab
import Derived.Test.YtamljjfhkolflaaC11zWFour
import Derived.Test.YtamljjfhkolflaaC11zWQPut
import Derived.Test.YtamljjfhkolflaaC11zWApart
import Derived.Test.YtamljjfhkolflaaC11zWArr
import Derived.Test.YtamljjfhkolflaaC11zWZeros
import Derived.Test.YtamljjfhkolflaaC11zWFoot
import Derived.Test.YtamljjfhkolflaaC11zWKept
import Derived.Test.YtamljjfhkolflaaC11zWShare
import Derived.Test.YtamljjfhkolflaaC11zWN
import Derived.Test.YtamljjfhkolflaaC11zWFootNe
import Derived.Test.YtamljjfhkolflaaC11zWAt
import Derived.Test.YtamljjfhkolflaaC11zWEqStruct
import Derived.Test.YtamljjfhkolflaaC11zWRepsOne
import Derived.Test.YtamljjfhkolflaaC11zWInv
import Derived.Test.YtamljjfhkolflaaC11zWInvWords
import Derived.Test.YtamljjfhkolflaaC11zWGuard
import Derived.Test.YtamljjfhkolflaaC11zWNEv
import Derived.Test.YtamljjfhkolflaaC11zWMore
import Derived.Test.YtamljjfhkolflaaC11zHG
import Derived.Shelf.Abstract
import Derived.WalkSpells
import Derived.Laws.CopyOwn
namespace Go.Proofs.Ytamljjfhkolflaa.H
open Go.RowKit Go.Proofs.YtamljjfhkolflaaW.PrintWords Go.Proofs.YtamljjfhkolflaaW.PrintLast Go.Proofs.YtamljjfhkolflaaW.PrintMore
abbrev ba' := @below_alloc
abbrev bd' := @pw_below_drewN
abbrev be' := @below_drew1
abbrev bs' := @below_set
abbrev kn' := @blk_drewN
abbrev kd' := @blk_drew
abbrev ka' := @blk_alloc
abbrev ra' := @Kd.R_alloc
abbrev rn' := @Kd.R_drewN
abbrev rw' := @Kd.R_drew
abbrev ca' := @Kd.C_alloc
abbrev cn' := @Kd.C_drewN
abbrev cd' := @Kd.C_drew
abbrev am' := @Aside0.mk
abbrev sa' := @List.setIfInBounds_toArray
abbrev sb' := @List.set_cons_zero
abbrev sc' := @List.set_cons_succ
abbrev bl' := @World.block_lt_of_cell?
end Go.Proofs.Ytamljjfhkolflaa.H
