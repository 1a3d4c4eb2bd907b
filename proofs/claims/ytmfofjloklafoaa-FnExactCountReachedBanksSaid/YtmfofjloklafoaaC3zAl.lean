import Derived.Test.YtmfofjloklafoaaC3zWWords
import Derived.Test.YtmfofjloklafoaaC3zWLast
import Derived.Test.YtmfofjloklafoaaC3zWTab
import Derived.Test.YtmfofjloklafoaaC3zWFour
import Derived.Test.YtmfofjloklafoaaC3zWQPut
import Derived.Test.YtmfofjloklafoaaC3zWApart
import Derived.Test.YtmfofjloklafoaaC3zWArr
import Derived.Test.YtmfofjloklafoaaC3zWZeros
import Derived.Test.YtmfofjloklafoaaC3zWFoot
import Derived.Test.YtmfofjloklafoaaC3zWKept
import Derived.Test.YtmfofjloklafoaaC3zWShare
import Derived.Test.YtmfofjloklafoaaC3zWN
import Derived.Test.YtmfofjloklafoaaC3zWFootNe
import Derived.Test.YtmfofjloklafoaaC3zWAt
import Derived.Test.YtmfofjloklafoaaC3zWEqStruct
import Derived.Test.YtmfofjloklafoaaC3zWRepsOne
import Derived.Test.YtmfofjloklafoaaC3zWInv
import Derived.Test.YtmfofjloklafoaaC3zWInvWords
import Derived.Test.YtmfofjloklafoaaC3zWGuard
import Derived.Test.YtmfofjloklafoaaC3zWNEv
import Derived.Test.YtmfofjloklafoaaC3zWMore
import Derived.Test.YtmfofjloklafoaaC3zHG
import Derived.Shelf.Abstract
import Derived.WalkSpells
import Derived.Laws.CopyOwn
namespace Go.Proofs.Ytmfofjloklafoaa.H
open Go.RowKit Go.Proofs.YtmfofjloklafoaaW.PrintWords Go.Proofs.YtmfofjloklafoaaW.PrintLast Go.Proofs.YtmfofjloklafoaaW.PrintMore
abbrev ba' := @below_alloc
abbrev bd' := @pw_below_drewN
abbrev be' := @below_drew1
abbrev bs' := @below_set
abbrev kn' := @blk_drewN
abbrev kd' := @blk_drew
abbrev ka' := @blk_alloc
abbrev ra' := @Kd.R_alloc
abbrev rn' := @Kd.R_drewN
abbrev rw' := @Kd.R_drew
abbrev ca' := @Kd.C_alloc
abbrev cn' := @Kd.C_drewN
abbrev cd' := @Kd.C_drew
abbrev am' := @Aside0.mk
abbrev sa' := @List.setIfInBounds_toArray
abbrev sb' := @List.set_cons_zero
abbrev sc' := @List.set_cons_succ
abbrev bl' := @World.block_lt_of_cell?
end Go.Proofs.Ytmfofjloklafoaa.H
