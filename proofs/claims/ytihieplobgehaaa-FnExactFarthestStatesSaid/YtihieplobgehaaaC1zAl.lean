import Derived.Test.YtihieplobgehaaaC1zWWords
import Derived.Test.YtihieplobgehaaaC1zWLast
import Derived.Test.YtihieplobgehaaaC1zWTab
import Derived.Test.YtihieplobgehaaaC1zWFour
import Derived.Test.YtihieplobgehaaaC1zWQPut
import Derived.Test.YtihieplobgehaaaC1zWApart
import Derived.Test.YtihieplobgehaaaC1zWArr
import Derived.Test.YtihieplobgehaaaC1zWZeros
import Derived.Test.YtihieplobgehaaaC1zWFoot
import Derived.Test.YtihieplobgehaaaC1zWKept
import Derived.Test.YtihieplobgehaaaC1zWShare
import Derived.Test.YtihieplobgehaaaC1zWN
import Derived.Test.YtihieplobgehaaaC1zWFootNe
import Derived.Test.YtihieplobgehaaaC1zWAt
import Derived.Test.YtihieplobgehaaaC1zWEqStruct
import Derived.Test.YtihieplobgehaaaC1zWRepsOne
import Derived.Test.YtihieplobgehaaaC1zWInv
import Derived.Test.YtihieplobgehaaaC1zWInvWords
import Derived.Test.YtihieplobgehaaaC1zWGuard
import Derived.Test.YtihieplobgehaaaC1zWNEv
import Derived.Test.YtihieplobgehaaaC1zWMore
import Derived.Test.YtihieplobgehaaaC1zHG
import Derived.Shelf.Abstract
import Derived.WalkSpells
import Derived.Laws.CopyOwn
namespace Go.Proofs.Ytihieplobgehaaa.H
open Go.RowKit Go.Proofs.YtihieplobgehaaaW.PrintWords Go.Proofs.YtihieplobgehaaaW.PrintLast Go.Proofs.YtihieplobgehaaaW.PrintMore
abbrev ba' := @below_alloc
abbrev bd' := @pw_below_drewN
abbrev be' := @below_drew1
abbrev bs' := @below_set
abbrev kn' := @blk_drewN
abbrev kd' := @blk_drew
abbrev ka' := @blk_alloc
abbrev ra' := @Kd.R_alloc
abbrev rn' := @Kd.R_drewN
abbrev rw' := @Kd.R_drew
abbrev ca' := @Kd.C_alloc
abbrev cn' := @Kd.C_drewN
abbrev cd' := @Kd.C_drew
abbrev am' := @Aside0.mk
abbrev sa' := @List.setIfInBounds_toArray
abbrev sb' := @List.set_cons_zero
abbrev sc' := @List.set_cons_succ
abbrev bl' := @World.block_lt_of_cell?
end Go.Proofs.Ytihieplobgehaaa.H
