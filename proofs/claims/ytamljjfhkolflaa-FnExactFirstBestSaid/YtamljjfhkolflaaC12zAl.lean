import Derived.Test.YtamljjfhkolflaaC12zWWords
import Derived.Test.YtamljjfhkolflaaC12zWLast
import Derived.Test.YtamljjfhkolflaaC12zWTab
import Derived.Test.YtamljjfhkolflaaC12zWFour
import Derived.Test.YtamljjfhkolflaaC12zWQPut
import Derived.Test.YtamljjfhkolflaaC12zWApart
import Derived.Test.YtamljjfhkolflaaC12zWArr
import Derived.Test.YtamljjfhkolflaaC12zWZeros
import Derived.Test.YtamljjfhkolflaaC12zWFoot
import Derived.Test.YtamljjfhkolflaaC12zWKept
import Derived.Test.YtamljjfhkolflaaC12zWShare
import Derived.Test.YtamljjfhkolflaaC12zWN
import Derived.Test.YtamljjfhkolflaaC12zWFootNe
import Derived.Test.YtamljjfhkolflaaC12zWAt
import Derived.Test.YtamljjfhkolflaaC12zWEqStruct
import Derived.Test.YtamljjfhkolflaaC12zWRepsOne
import Derived.Test.YtamljjfhkolflaaC12zWInv
import Derived.Test.YtamljjfhkolflaaC12zWInvWords
import Derived.Test.YtamljjfhkolflaaC12zWGuard
import Derived.Test.YtamljjfhkolflaaC12zWNEv
import Derived.Test.YtamljjfhkolflaaC12zWMore
import Derived.Test.YtamljjfhkolflaaC12zHG
import Derived.Shelf.Abstract
import Derived.WalkSpells
import Derived.Laws.CopyOwn
namespace Go.Proofs.Ytamljjfhkolflaa.H
open Go.RowKit Go.Proofs.YtamljjfhkolflaaW.PrintWords Go.Proofs.YtamljjfhkolflaaW.PrintLast Go.Proofs.YtamljjfhkolflaaW.PrintMore
abbrev ba' := @below_alloc
abbrev bd' := @pw_below_drewN
abbrev be' := @below_drew1
abbrev bs' := @below_set
abbrev kn' := @blk_drewN
abbrev kd' := @blk_drew
abbrev ka' := @blk_alloc
abbrev ra' := @Kd.R_alloc
abbrev rn' := @Kd.R_drewN
abbrev rw' := @Kd.R_drew
abbrev ca' := @Kd.C_alloc
abbrev cn' := @Kd.C_drewN
abbrev cd' := @Kd.C_drew
abbrev am' := @Aside0.mk
abbrev sa' := @List.setIfInBounds_toArray
abbrev sb' := @List.set_cons_zero
abbrev sc' := @List.set_cons_succ
abbrev bl' := @World.block_lt_of_cell?
end Go.Proofs.Ytamljjfhkolflaa.H
