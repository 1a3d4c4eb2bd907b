import Derived.Test.YtdomojenlofieaaC1zWWords
import Derived.Test.YtdomojenlofieaaC1zWLast
import Derived.Test.YtdomojenlofieaaC1zWTab
import Derived.Test.YtdomojenlofieaaC1zWFour
import Derived.Test.YtdomojenlofieaaC1zWQPut
import Derived.Test.YtdomojenlofieaaC1zWApart
import Derived.Test.YtdomojenlofieaaC1zWArr
import Derived.Test.YtdomojenlofieaaC1zWZeros
import Derived.Test.YtdomojenlofieaaC1zWFoot
import Derived.Test.YtdomojenlofieaaC1zWKept
import Derived.Test.YtdomojenlofieaaC1zWShare
import Derived.Test.YtdomojenlofieaaC1zWN
import Derived.Test.YtdomojenlofieaaC1zWFootNe
import Derived.Test.YtdomojenlofieaaC1zWAt
import Derived.Test.YtdomojenlofieaaC1zWEqStruct
import Derived.Test.YtdomojenlofieaaC1zWRepsOne
import Derived.Test.YtdomojenlofieaaC1zWInv
import Derived.Test.YtdomojenlofieaaC1zWInvWords
import Derived.Test.YtdomojenlofieaaC1zWGuard
import Derived.Test.YtdomojenlofieaaC1zWNEv
import Derived.Test.YtdomojenlofieaaC1zWMore
import Derived.Test.YtdomojenlofieaaC1zHG
import Derived.Shelf.Abstract
import Derived.WalkSpells
import Derived.Laws.CopyOwn
namespace Go.Proofs.Ytdomojenlofieaa.H
open Go.RowKit Go.Proofs.YtdomojenlofieaaW.PrintWords Go.Proofs.YtdomojenlofieaaW.PrintLast Go.Proofs.YtdomojenlofieaaW.PrintMore
abbrev ba' := @below_alloc
abbrev bd' := @pw_below_drewN
abbrev be' := @below_drew1
abbrev bs' := @below_set
abbrev kn' := @blk_drewN
abbrev kd' := @blk_drew
abbrev ka' := @blk_alloc
abbrev ra' := @Kd.R_alloc
abbrev rn' := @Kd.R_drewN
abbrev rw' := @Kd.R_drew
abbrev ca' := @Kd.C_alloc
abbrev cn' := @Kd.C_drewN
abbrev cd' := @Kd.C_drew
abbrev am' := @Aside0.mk
abbrev sa' := @List.setIfInBounds_toArray
abbrev sb' := @List.set_cons_zero
abbrev sc' := @List.set_cons_succ
abbrev bl' := @World.block_lt_of_cell?
end Go.Proofs.Ytdomojenlofieaa.H
