import Derived.Test.YtamljjfhkolflaaC4zWWords
import Derived.Test.YtamljjfhkolflaaC4zWLast
import Derived.Test.YtamljjfhkolflaaC4zWTab
import Derived.Test.YtamljjfhkolflaaC4zWFour
import Derived.Test.YtamljjfhkolflaaC4zWQPut
import Derived.Test.YtamljjfhkolflaaC4zWApart
import Derived.Test.YtamljjfhkolflaaC4zWArr
import Derived.Test.YtamljjfhkolflaaC4zWZeros
import Derived.Test.YtamljjfhkolflaaC4zWFoot
import Derived.Test.YtamljjfhkolflaaC4zWKept
import Derived.Test.YtamljjfhkolflaaC4zWShare
import Derived.Test.YtamljjfhkolflaaC4zWN
import Derived.Test.YtamljjfhkolflaaC4zWFootNe
import Derived.Test.YtamljjfhkolflaaC4zWAt
import Derived.Test.YtamljjfhkolflaaC4zWEqStruct
import Derived.Test.YtamljjfhkolflaaC4zWRepsOne
import Derived.Test.YtamljjfhkolflaaC4zWInv
import Derived.Test.YtamljjfhkolflaaC4zWInvWords
import Derived.Test.YtamljjfhkolflaaC4zWGuard
import Derived.Test.YtamljjfhkolflaaC4zWNEv
import Derived.Test.YtamljjfhkolflaaC4zWMore
import Derived.Test.YtamljjfhkolflaaC4zHG
import Derived.Shelf.Abstract
import Derived.WalkSpells
import Derived.Laws.CopyOwn
namespace Go.Proofs.Ytamljjfhkolflaa.H
open Go.RowKit Go.Proofs.YtamljjfhkolflaaW.PrintWords Go.Proofs.YtamljjfhkolflaaW.PrintLast Go.Proofs.YtamljjfhkolflaaW.PrintMore
abbrev ba' := @below_alloc
abbrev bd' := @pw_below_drewN
abbrev be' := @below_drew1
abbrev bs' := @below_set
abbrev kn' := @blk_drewN
abbrev kd' := @blk_drew
abbrev ka' := @blk_alloc
abbrev ra' := @Kd.R_alloc
abbrev rn' := @Kd.R_drewN
abbrev rw' := @Kd.R_drew
abbrev ca' := @Kd.C_alloc
abbrev cn' := @Kd.C_drewN
abbrev cd' := @Kd.C_drew
abbrev am' := @Aside0.mk
abbrev sa' := @List.setIfInBounds_toArray
abbrev sb' := @List.set_cons_zero
abbrev sc' := @List.set_cons_succ
abbrev bl' := @World.block_lt_of_cell?
end Go.Proofs.Ytamljjfhkolflaa.H
