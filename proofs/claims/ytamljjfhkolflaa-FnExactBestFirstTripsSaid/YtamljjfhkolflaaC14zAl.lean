import Derived.Test.YtamljjfhkolflaaC14zWWords
import Derived.Test.YtamljjfhkolflaaC14zWLast
import Derived.Test.YtamljjfhkolflaaC14zWTab
import Derived.Test.YtamljjfhkolflaaC14zWFour
import Derived.Test.YtamljjfhkolflaaC14zWQPut
import Derived.Test.YtamljjfhkolflaaC14zWApart
import Derived.Test.YtamljjfhkolflaaC14zWArr
import Derived.Test.YtamljjfhkolflaaC14zWZeros
import Derived.Test.YtamljjfhkolflaaC14zWFoot
import Derived.Test.YtamljjfhkolflaaC14zWKept
import Derived.Test.YtamljjfhkolflaaC14zWShare
import Derived.Test.YtamljjfhkolflaaC14zWN
import Derived.Test.YtamljjfhkolflaaC14zWFootNe
import Derived.Test.YtamljjfhkolflaaC14zWAt
import Derived.Test.YtamljjfhkolflaaC14zWEqStruct
import Derived.Test.YtamljjfhkolflaaC14zWRepsOne
import Derived.Test.YtamljjfhkolflaaC14zWInv
import Derived.Test.YtamljjfhkolflaaC14zWInvWords
import Derived.Test.YtamljjfhkolflaaC14zWGuard
import Derived.Test.YtamljjfhkolflaaC14zWNEv
import Derived.Test.YtamljjfhkolflaaC14zWMore
import Derived.Test.YtamljjfhkolflaaC14zHG
import Derived.Shelf.Abstract
import Derived.WalkSpells
import Derived.Laws.CopyOwn
namespace Go.Proofs.Ytamljjfhkolflaa.H
open Go.RowKit Go.Proofs.YtamljjfhkolflaaW.PrintWords Go.Proofs.YtamljjfhkolflaaW.PrintLast Go.Proofs.YtamljjfhkolflaaW.PrintMore
abbrev ba' := @below_alloc
abbrev bd' := @pw_below_drewN
abbrev be' := @below_drew1
abbrev bs' := @below_set
abbrev kn' := @blk_drewN
abbrev kd' := @blk_drew
abbrev ka' := @blk_alloc
abbrev ra' := @Kd.R_alloc
abbrev rn' := @Kd.R_drewN
abbrev rw' := @Kd.R_drew
abbrev ca' := @Kd.C_alloc
abbrev cn' := @Kd.C_drewN
abbrev cd' := @Kd.C_drew
abbrev am' := @Aside0.mk
abbrev sa' := @List.setIfInBounds_toArray
abbrev sb' := @List.set_cons_zero
abbrev sc' := @List.set_cons_succ
abbrev bl' := @World.block_lt_of_cell?
end Go.Proofs.Ytamljjfhkolflaa.H
