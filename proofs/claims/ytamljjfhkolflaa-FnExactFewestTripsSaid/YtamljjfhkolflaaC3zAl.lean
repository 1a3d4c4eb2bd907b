import Derived.Test.YtamljjfhkolflaaC3zWWords
import Derived.Test.YtamljjfhkolflaaC3zWLast
import Derived.Test.YtamljjfhkolflaaC3zWTab
import Derived.Test.YtamljjfhkolflaaC3zWFour
import Derived.Test.YtamljjfhkolflaaC3zWQPut
import Derived.Test.YtamljjfhkolflaaC3zWApart
import Derived.Test.YtamljjfhkolflaaC3zWArr
import Derived.Test.YtamljjfhkolflaaC3zWZeros
import Derived.Test.YtamljjfhkolflaaC3zWFoot
import Derived.Test.YtamljjfhkolflaaC3zWKept
import Derived.Test.YtamljjfhkolflaaC3zWShare
import Derived.Test.YtamljjfhkolflaaC3zWN
import Derived.Test.YtamljjfhkolflaaC3zWFootNe
import Derived.Test.YtamljjfhkolflaaC3zWAt
import Derived.Test.YtamljjfhkolflaaC3zWEqStruct
import Derived.Test.YtamljjfhkolflaaC3zWRepsOne
import Derived.Test.YtamljjfhkolflaaC3zWInv
import Derived.Test.YtamljjfhkolflaaC3zWInvWords
import Derived.Test.YtamljjfhkolflaaC3zWGuard
import Derived.Test.YtamljjfhkolflaaC3zWNEv
import Derived.Test.YtamljjfhkolflaaC3zWMore
import Derived.Test.YtamljjfhkolflaaC3zHG
import Derived.Shelf.Abstract
import Derived.WalkSpells
import Derived.Laws.CopyOwn
namespace Go.Proofs.Ytamljjfhkolflaa.H
open Go.RowKit Go.Proofs.YtamljjfhkolflaaW.PrintWords Go.Proofs.YtamljjfhkolflaaW.PrintLast Go.Proofs.YtamljjfhkolflaaW.PrintMore
abbrev ba' := @below_alloc
abbrev bd' := @pw_below_drewN
abbrev be' := @below_drew1
abbrev bs' := @below_set
abbrev kn' := @blk_drewN
abbrev kd' := @blk_drew
abbrev ka' := @blk_alloc
abbrev ra' := @Kd.R_alloc
abbrev rn' := @Kd.R_drewN
abbrev rw' := @Kd.R_drew
abbrev ca' := @Kd.C_alloc
abbrev cn' := @Kd.C_drewN
abbrev cd' := @Kd.C_drew
abbrev am' := @Aside0.mk
abbrev sa' := @List.setIfInBounds_toArray
abbrev sb' := @List.set_cons_zero
abbrev sc' := @List.set_cons_succ
abbrev bl' := @World.block_lt_of_cell?
end Go.Proofs.Ytamljjfhkolflaa.H
