import Derived.Test.YtamljjfhkolflaaC6zWWords
import Derived.Test.YtamljjfhkolflaaC6zWLast
import Derived.Test.YtamljjfhkolflaaC6zWTab
import Derived.Test.YtamljjfhkolflaaC6zWFour
import Derived.Test.YtamljjfhkolflaaC6zWQPut
import Derived.Test.YtamljjfhkolflaaC6zWApart
import Derived.Test.YtamljjfhkolflaaC6zWArr
import Derived.Test.YtamljjfhkolflaaC6zWZeros
import Derived.Test.YtamljjfhkolflaaC6zWFoot
import Derived.Test.YtamljjfhkolflaaC6zWKept
import Derived.Test.YtamljjfhkolflaaC6zWShare
import Derived.Test.YtamljjfhkolflaaC6zWN
import Derived.Test.YtamljjfhkolflaaC6zWFootNe
import Derived.Test.YtamljjfhkolflaaC6zWAt
import Derived.Test.YtamljjfhkolflaaC6zWEqStruct
import Derived.Test.YtamljjfhkolflaaC6zWRepsOne
import Derived.Test.YtamljjfhkolflaaC6zWInv
import Derived.Test.YtamljjfhkolflaaC6zWInvWords
import Derived.Test.YtamljjfhkolflaaC6zWGuard
import Derived.Test.YtamljjfhkolflaaC6zWNEv
import Derived.Test.YtamljjfhkolflaaC6zWMore
import Derived.Test.YtamljjfhkolflaaC6zHG
import Derived.Shelf.Abstract
import Derived.WalkSpells
import Derived.Laws.CopyOwn
namespace Go.Proofs.Ytamljjfhkolflaa.H
open Go.RowKit Go.Proofs.YtamljjfhkolflaaW.PrintWords Go.Proofs.YtamljjfhkolflaaW.PrintLast Go.Proofs.YtamljjfhkolflaaW.PrintMore
abbrev ba' := @below_alloc
abbrev bd' := @pw_below_drewN
abbrev be' := @below_drew1
abbrev bs' := @below_set
abbrev kn' := @blk_drewN
abbrev kd' := @blk_drew
abbrev ka' := @blk_alloc
abbrev ra' := @Kd.R_alloc
abbrev rn' := @Kd.R_drewN
abbrev rw' := @Kd.R_drew
abbrev ca' := @Kd.C_alloc
abbrev cn' := @Kd.C_drewN
abbrev cd' := @Kd.C_drew
abbrev am' := @Aside0.mk
abbrev sa' := @List.setIfInBounds_toArray
abbrev sb' := @List.set_cons_zero
abbrev sc' := @List.set_cons_succ
abbrev bl' := @World.block_lt_of_cell?
end Go.Proofs.Ytamljjfhkolflaa.H
