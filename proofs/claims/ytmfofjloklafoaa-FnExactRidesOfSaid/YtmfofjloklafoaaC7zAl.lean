import Derived.Test.YtmfofjloklafoaaC7zWWords
import Derived.Test.YtmfofjloklafoaaC7zWLast
import Derived.Test.YtmfofjloklafoaaC7zWTab
import Derived.Test.YtmfofjloklafoaaC7zWFour
import Derived.Test.YtmfofjloklafoaaC7zWQPut
import Derived.Test.YtmfofjloklafoaaC7zWApart
import Derived.Test.YtmfofjloklafoaaC7zWArr
import Derived.Test.YtmfofjloklafoaaC7zWZeros
import Derived.Test.YtmfofjloklafoaaC7zWFoot
import Derived.Test.YtmfofjloklafoaaC7zWKept
import Derived.Test.YtmfofjloklafoaaC7zWShare
import Derived.Test.YtmfofjloklafoaaC7zWN
import Derived.Test.YtmfofjloklafoaaC7zWFootNe
import Derived.Test.YtmfofjloklafoaaC7zWAt
import Derived.Test.YtmfofjloklafoaaC7zWEqStruct
import Derived.Test.YtmfofjloklafoaaC7zWRepsOne
import Derived.Test.YtmfofjloklafoaaC7zWInv
import Derived.Test.YtmfofjloklafoaaC7zWInvWords
import Derived.Test.YtmfofjloklafoaaC7zWGuard
import Derived.Test.YtmfofjloklafoaaC7zWNEv
import Derived.Test.YtmfofjloklafoaaC7zWMore
import Derived.Test.YtmfofjloklafoaaC7zHG
import Derived.Shelf.Abstract
import Derived.WalkSpells
import Derived.Laws.CopyOwn
namespace Go.Proofs.Ytmfofjloklafoaa.H
open Go.RowKit Go.Proofs.YtmfofjloklafoaaW.PrintWords Go.Proofs.YtmfofjloklafoaaW.PrintLast Go.Proofs.YtmfofjloklafoaaW.PrintMore
abbrev ba' := @below_alloc
abbrev bd' := @pw_below_drewN
abbrev be' := @below_drew1
abbrev bs' := @below_set
abbrev kn' := @blk_drewN
abbrev kd' := @blk_drew
abbrev ka' := @blk_alloc
abbrev ra' := @Kd.R_alloc
abbrev rn' := @Kd.R_drewN
abbrev rw' := @Kd.R_drew
abbrev ca' := @Kd.C_alloc
abbrev cn' := @Kd.C_drewN
abbrev cd' := @Kd.C_drew
abbrev am' := @Aside0.mk
abbrev sa' := @List.setIfInBounds_toArray
abbrev sb' := @List.set_cons_zero
abbrev sc' := @List.set_cons_succ
abbrev bl' := @World.block_lt_of_cell?
end Go.Proofs.Ytmfofjloklafoaa.H
