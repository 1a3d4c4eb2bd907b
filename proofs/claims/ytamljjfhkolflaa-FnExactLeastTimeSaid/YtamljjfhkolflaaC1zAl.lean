import Derived.Test.YtamljjfhkolflaaC1zWWords
import Derived.Test.YtamljjfhkolflaaC1zWLast
import Derived.Test.YtamljjfhkolflaaC1zWTab
import Derived.Test.YtamljjfhkolflaaC1zWFour
import Derived.Test.YtamljjfhkolflaaC1zWQPut
import Derived.Test.YtamljjfhkolflaaC1zWApart
import Derived.Test.YtamljjfhkolflaaC1zWArr
import Derived.Test.YtamljjfhkolflaaC1zWZeros
import Derived.Test.YtamljjfhkolflaaC1zWFoot
import Derived.Test.YtamljjfhkolflaaC1zWKept
import Derived.Test.YtamljjfhkolflaaC1zWShare
import Derived.Test.YtamljjfhkolflaaC1zWN
import Derived.Test.YtamljjfhkolflaaC1zWFootNe
import Derived.Test.YtamljjfhkolflaaC1zWAt
import Derived.Test.YtamljjfhkolflaaC1zWEqStruct
import Derived.Test.YtamljjfhkolflaaC1zWRepsOne
import Derived.Test.YtamljjfhkolflaaC1zWInv
import Derived.Test.YtamljjfhkolflaaC1zWInvWords
import Derived.Test.YtamljjfhkolflaaC1zWGuard
import Derived.Test.YtamljjfhkolflaaC1zWNEv
import Derived.Test.YtamljjfhkolflaaC1zWMore
import Derived.Test.YtamljjfhkolflaaC1zHG
import Derived.Shelf.Abstract
import Derived.WalkSpells
import Derived.Laws.CopyOwn
namespace Go.Proofs.Ytamljjfhkolflaa.H
open Go.RowKit Go.Proofs.YtamljjfhkolflaaW.PrintWords Go.Proofs.YtamljjfhkolflaaW.PrintLast Go.Proofs.YtamljjfhkolflaaW.PrintMore
abbrev ba' := @below_alloc
abbrev bd' := @pw_below_drewN
abbrev be' := @below_drew1
abbrev bs' := @below_set
abbrev kn' := @blk_drewN
abbrev kd' := @blk_drew
abbrev ka' := @blk_alloc
abbrev ra' := @Kd.R_alloc
abbrev rn' := @Kd.R_drewN
abbrev rw' := @Kd.R_drew
abbrev ca' := @Kd.C_alloc
abbrev cn' := @Kd.C_drewN
abbrev cd' := @Kd.C_drew
abbrev am' := @Aside0.mk
abbrev sa' := @List.setIfInBounds_toArray
abbrev sb' := @List.set_cons_zero
abbrev sc' := @List.set_cons_succ
abbrev bl' := @World.block_lt_of_cell?
end Go.Proofs.Ytamljjfhkolflaa.H
