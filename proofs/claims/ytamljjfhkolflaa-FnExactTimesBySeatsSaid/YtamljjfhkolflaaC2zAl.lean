import Derived.Test.YtamljjfhkolflaaC2zWWords
import Derived.Test.YtamljjfhkolflaaC2zWLast
import Derived.Test.YtamljjfhkolflaaC2zWTab
import Derived.Test.YtamljjfhkolflaaC2zWFour
import Derived.Test.YtamljjfhkolflaaC2zWQPut
import Derived.Test.YtamljjfhkolflaaC2zWApart
import Derived.Test.YtamljjfhkolflaaC2zWArr
import Derived.Test.YtamljjfhkolflaaC2zWZeros
import Derived.Test.YtamljjfhkolflaaC2zWFoot
import Derived.Test.YtamljjfhkolflaaC2zWKept
import Derived.Test.YtamljjfhkolflaaC2zWShare
import Derived.Test.YtamljjfhkolflaaC2zWN
import Derived.Test.YtamljjfhkolflaaC2zWFootNe
import Derived.Test.YtamljjfhkolflaaC2zWAt
import Derived.Test.YtamljjfhkolflaaC2zWEqStruct
import Derived.Test.YtamljjfhkolflaaC2zWRepsOne
import Derived.Test.YtamljjfhkolflaaC2zWInv
import Derived.Test.YtamljjfhkolflaaC2zWInvWords
import Derived.Test.YtamljjfhkolflaaC2zWGuard
import Derived.Test.YtamljjfhkolflaaC2zWNEv
import Derived.Test.YtamljjfhkolflaaC2zWMore
import Derived.Test.YtamljjfhkolflaaC2zHG
import Derived.Shelf.Abstract
import Derived.WalkSpells
import Derived.Laws.CopyOwn
namespace Go.Proofs.Ytamljjfhkolflaa.H
open Go.RowKit Go.Proofs.YtamljjfhkolflaaW.PrintWords Go.Proofs.YtamljjfhkolflaaW.PrintLast Go.Proofs.YtamljjfhkolflaaW.PrintMore
abbrev ba' := @below_alloc
abbrev bd' := @pw_below_drewN
abbrev be' := @below_drew1
abbrev bs' := @below_set
abbrev kn' := @blk_drewN
abbrev kd' := @blk_drew
abbrev ka' := @blk_alloc
abbrev ra' := @Kd.R_alloc
abbrev rn' := @Kd.R_drewN
abbrev rw' := @Kd.R_drew
abbrev ca' := @Kd.C_alloc
abbrev cn' := @Kd.C_drewN
abbrev cd' := @Kd.C_drew
abbrev am' := @Aside0.mk
abbrev sa' := @List.setIfInBounds_toArray
abbrev sb' := @List.set_cons_zero
abbrev sc' := @List.set_cons_succ
abbrev bl' := @World.block_lt_of_cell?
end Go.Proofs.Ytamljjfhkolflaa.H
