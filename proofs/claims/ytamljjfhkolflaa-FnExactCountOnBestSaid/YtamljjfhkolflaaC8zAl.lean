import Derived.Test.YtamljjfhkolflaaC8zWWords
import Derived.Test.YtamljjfhkolflaaC8zWLast
import Derived.Test.YtamljjfhkolflaaC8zWTab
import Derived.Test.YtamljjfhkolflaaC8zWFour
import Derived.Test.YtamljjfhkolflaaC8zWQPut
import Derived.Test.YtamljjfhkolflaaC8zWApart
import Derived.Test.YtamljjfhkolflaaC8zWArr
import Derived.Test.YtamljjfhkolflaaC8zWZeros
import Derived.Test.YtamljjfhkolflaaC8zWFoot
import Derived.Test.YtamljjfhkolflaaC8zWKept
import Derived.Test.YtamljjfhkolflaaC8zWShare
import Derived.Test.YtamljjfhkolflaaC8zWN
import Derived.Test.YtamljjfhkolflaaC8zWFootNe
import Derived.Test.YtamljjfhkolflaaC8zWAt
import Derived.Test.YtamljjfhkolflaaC8zWEqStruct
import Derived.Test.YtamljjfhkolflaaC8zWRepsOne
import Derived.Test.YtamljjfhkolflaaC8zWInv
import Derived.Test.YtamljjfhkolflaaC8zWInvWords
import Derived.Test.YtamljjfhkolflaaC8zWGuard
import Derived.Test.YtamljjfhkolflaaC8zWNEv
import Derived.Test.YtamljjfhkolflaaC8zWMore
import Derived.Test.YtamljjfhkolflaaC8zHG
import Derived.Shelf.Abstract
import Derived.WalkSpells
import Derived.Laws.CopyOwn
namespace Go.Proofs.Ytamljjfhkolflaa.H
open Go.RowKit Go.Proofs.YtamljjfhkolflaaW.PrintWords Go.Proofs.YtamljjfhkolflaaW.PrintLast Go.Proofs.YtamljjfhkolflaaW.PrintMore
abbrev ba' := @below_alloc
abbrev bd' := @pw_below_drewN
abbrev be' := @below_drew1
abbrev bs' := @below_set
abbrev kn' := @blk_drewN
abbrev kd' := @blk_drew
abbrev ka' := @blk_alloc
abbrev ra' := @Kd.R_alloc
abbrev rn' := @Kd.R_drewN
abbrev rw' := @Kd.R_drew
abbrev ca' := @Kd.C_alloc
abbrev cn' := @Kd.C_drewN
abbrev cd' := @Kd.C_drew
abbrev am' := @Aside0.mk
abbrev sa' := @List.setIfInBounds_toArray
abbrev sb' := @List.set_cons_zero
abbrev sc' := @List.set_cons_succ
abbrev bl' := @World.block_lt_of_cell?
end Go.Proofs.Ytamljjfhkolflaa.H
