import Derived.Test.YtamljjfhkolflaaC15zWWords
import Derived.Test.YtamljjfhkolflaaC15zWLast
import Derived.Test.YtamljjfhkolflaaC15zWTab
import Derived.Test.YtamljjfhkolflaaC15zWFour
import Derived.Test.YtamljjfhkolflaaC15zWQPut
import Derived.Test.YtamljjfhkolflaaC15zWApart
import Derived.Test.YtamljjfhkolflaaC15zWArr
import Derived.Test.YtamljjfhkolflaaC15zWZeros
import Derived.Test.YtamljjfhkolflaaC15zWFoot
import Derived.Test.YtamljjfhkolflaaC15zWKept
import Derived.Test.YtamljjfhkolflaaC15zWShare
import Derived.Test.YtamljjfhkolflaaC15zWN
import Derived.Test.YtamljjfhkolflaaC15zWFootNe
import Derived.Test.YtamljjfhkolflaaC15zWAt
import Derived.Test.YtamljjfhkolflaaC15zWEqStruct
import Derived.Test.YtamljjfhkolflaaC15zWRepsOne
import Derived.Test.YtamljjfhkolflaaC15zWInv
import Derived.Test.YtamljjfhkolflaaC15zWInvWords
import Derived.Test.YtamljjfhkolflaaC15zWGuard
import Derived.Test.YtamljjfhkolflaaC15zWNEv
import Derived.Test.YtamljjfhkolflaaC15zWMore
import Derived.Test.YtamljjfhkolflaaC15zHG
import Derived.Shelf.Abstract
import Derived.WalkSpells
import Derived.Laws.CopyOwn
namespace Go.Proofs.Ytamljjfhkolflaa.H
open Go.RowKit Go.Proofs.YtamljjfhkolflaaW.PrintWords Go.Proofs.YtamljjfhkolflaaW.PrintLast Go.Proofs.YtamljjfhkolflaaW.PrintMore
abbrev ba' := @below_alloc
abbrev bd' := @pw_below_drewN
abbrev be' := @below_drew1
abbrev bs' := @below_set
abbrev kn' := @blk_drewN
abbrev kd' := @blk_drew
abbrev ka' := @blk_alloc
abbrev ra' := @Kd.R_alloc
abbrev rn' := @Kd.R_drewN
abbrev rw' := @Kd.R_drew
abbrev ca' := @Kd.C_alloc
abbrev cn' := @Kd.C_drewN
abbrev cd' := @Kd.C_drew
abbrev am' := @Aside0.mk
abbrev sa' := @List.setIfInBounds_toArray
abbrev sb' := @List.set_cons_zero
abbrev sc' := @List.set_cons_succ
abbrev bl' := @World.block_lt_of_cell?
end Go.Proofs.Ytamljjfhkolflaa.H
