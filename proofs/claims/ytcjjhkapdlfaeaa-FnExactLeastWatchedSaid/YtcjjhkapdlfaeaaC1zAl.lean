import Derived.Test.YtcjjhkapdlfaeaaC1zWWords
import Derived.Test.YtcjjhkapdlfaeaaC1zWLast
import Derived.Test.YtcjjhkapdlfaeaaC1zWTab
import Derived.Test.YtcjjhkapdlfaeaaC1zWFour
import Derived.Test.YtcjjhkapdlfaeaaC1zWQPut
import Derived.Test.YtcjjhkapdlfaeaaC1zWApart
import Derived.Test.YtcjjhkapdlfaeaaC1zWArr
import Derived.Test.YtcjjhkapdlfaeaaC1zWZeros
import Derived.Test.YtcjjhkapdlfaeaaC1zWFoot
import Derived.Test.YtcjjhkapdlfaeaaC1zWKept
import Derived.Test.YtcjjhkapdlfaeaaC1zWShare
import Derived.Test.YtcjjhkapdlfaeaaC1zWN
import Derived.Test.YtcjjhkapdlfaeaaC1zWFootNe
import Derived.Test.YtcjjhkapdlfaeaaC1zWAt
import Derived.Test.YtcjjhkapdlfaeaaC1zWEqStruct
import Derived.Test.YtcjjhkapdlfaeaaC1zWRepsOne
import Derived.Test.YtcjjhkapdlfaeaaC1zWInv
import Derived.Test.YtcjjhkapdlfaeaaC1zWInvWords
import Derived.Test.YtcjjhkapdlfaeaaC1zWGuard
import Derived.Test.YtcjjhkapdlfaeaaC1zWNEv
import Derived.Test.YtcjjhkapdlfaeaaC1zWMore
import Derived.Test.YtcjjhkapdlfaeaaC1zHG
import Derived.Shelf.Abstract
import Derived.WalkSpells
import Derived.Laws.CopyOwn
namespace Go.Proofs.Ytcjjhkapdlfaeaa.H
open Go.RowKit Go.Proofs.YtcjjhkapdlfaeaaW.PrintWords Go.Proofs.YtcjjhkapdlfaeaaW.PrintLast Go.Proofs.YtcjjhkapdlfaeaaW.PrintMore
abbrev ba' := @below_alloc
abbrev bd' := @pw_below_drewN
abbrev be' := @below_drew1
abbrev bs' := @below_set
abbrev kn' := @blk_drewN
abbrev kd' := @blk_drew
abbrev ka' := @blk_alloc
abbrev ra' := @Kd.R_alloc
abbrev rn' := @Kd.R_drewN
abbrev rw' := @Kd.R_drew
abbrev ca' := @Kd.C_alloc
abbrev cn' := @Kd.C_drewN
abbrev cd' := @Kd.C_drew
abbrev am' := @Aside0.mk
abbrev sa' := @List.setIfInBounds_toArray
abbrev sb' := @List.set_cons_zero
abbrev sc' := @List.set_cons_succ
abbrev bl' := @World.block_lt_of_cell?
end Go.Proofs.Ytcjjhkapdlfaeaa.H
