import Derived.Test.YtamljjfhkolflaaC7zWWords
import Derived.Test.YtamljjfhkolflaaC7zWLast
import Derived.Test.YtamljjfhkolflaaC7zWTab
import Derived.Test.YtamljjfhkolflaaC7zWFour
import Derived.Test.YtamljjfhkolflaaC7zWQPut
import Derived.Test.YtamljjfhkolflaaC7zWApart
import Derived.Test.YtamljjfhkolflaaC7zWArr
import Derived.Test.YtamljjfhkolflaaC7zWZeros
import Derived.Test.YtamljjfhkolflaaC7zWFoot
import Derived.Test.YtamljjfhkolflaaC7zWKept
import Derived.Test.YtamljjfhkolflaaC7zWShare
import Derived.Test.YtamljjfhkolflaaC7zWN
import Derived.Test.YtamljjfhkolflaaC7zWFootNe
import Derived.Test.YtamljjfhkolflaaC7zWAt
import Derived.Test.YtamljjfhkolflaaC7zWEqStruct
import Derived.Test.YtamljjfhkolflaaC7zWRepsOne
import Derived.Test.YtamljjfhkolflaaC7zWInv
import Derived.Test.YtamljjfhkolflaaC7zWInvWords
import Derived.Test.YtamljjfhkolflaaC7zWGuard
import Derived.Test.YtamljjfhkolflaaC7zWNEv
import Derived.Test.YtamljjfhkolflaaC7zWMore
import Derived.Test.YtamljjfhkolflaaC7zHG
import Derived.Shelf.Abstract
import Derived.WalkSpells
import Derived.Laws.CopyOwn
namespace Go.Proofs.Ytamljjfhkolflaa.H
open Go.RowKit Go.Proofs.YtamljjfhkolflaaW.PrintWords Go.Proofs.YtamljjfhkolflaaW.PrintLast Go.Proofs.YtamljjfhkolflaaW.PrintMore
abbrev ba' := @below_alloc
abbrev bd' := @pw_below_drewN
abbrev be' := @below_drew1
abbrev bs' := @below_set
abbrev kn' := @blk_drewN
abbrev kd' := @blk_drew
abbrev ka' := @blk_alloc
abbrev ra' := @Kd.R_alloc
abbrev rn' := @Kd.R_drewN
abbrev rw' := @Kd.R_drew
abbrev ca' := @Kd.C_alloc
abbrev cn' := @Kd.C_drewN
abbrev cd' := @Kd.C_drew
abbrev am' := @Aside0.mk
abbrev sa' := @List.setIfInBounds_toArray
abbrev sb' := @List.set_cons_zero
abbrev sc' := @List.set_cons_succ
abbrev bl' := @World.block_lt_of_cell?
end Go.Proofs.Ytamljjfhkolflaa.H
