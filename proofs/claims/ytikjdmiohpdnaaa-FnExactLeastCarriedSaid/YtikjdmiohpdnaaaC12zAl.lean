import Derived.Test.YtikjdmiohpdnaaaC12zWWords
import Derived.Test.YtikjdmiohpdnaaaC12zWLast
import Derived.Test.YtikjdmiohpdnaaaC12zWTab
import Derived.Test.YtikjdmiohpdnaaaC12zWFour
import Derived.Test.YtikjdmiohpdnaaaC12zWQPut
import Derived.Test.YtikjdmiohpdnaaaC12zWApart
import Derived.Test.YtikjdmiohpdnaaaC12zWArr
import Derived.Test.YtikjdmiohpdnaaaC12zWZeros
import Derived.Test.YtikjdmiohpdnaaaC12zWFoot
import Derived.Test.YtikjdmiohpdnaaaC12zWKept
import Derived.Test.YtikjdmiohpdnaaaC12zWShare
import Derived.Test.YtikjdmiohpdnaaaC12zWN
import Derived.Test.YtikjdmiohpdnaaaC12zWFootNe
import Derived.Test.YtikjdmiohpdnaaaC12zWAt
import Derived.Test.YtikjdmiohpdnaaaC12zWEqStruct
import Derived.Test.YtikjdmiohpdnaaaC12zWRepsOne
import Derived.Test.YtikjdmiohpdnaaaC12zWInv
import Derived.Test.YtikjdmiohpdnaaaC12zWInvWords
import Derived.Test.YtikjdmiohpdnaaaC12zWGuard
import Derived.Test.YtikjdmiohpdnaaaC12zWNEv
import Derived.Test.YtikjdmiohpdnaaaC12zWMore
import Derived.Test.YtikjdmiohpdnaaaC12zHG
import Derived.Shelf.Abstract
import Derived.WalkSpells
import Derived.Laws.CopyOwn
namespace Go.Proofs.Ytikjdmiohpdnaaa.H
open Go.RowKit Go.Proofs.YtikjdmiohpdnaaaW.PrintWords Go.Proofs.YtikjdmiohpdnaaaW.PrintLast Go.Proofs.YtikjdmiohpdnaaaW.PrintMore
abbrev ba' := @below_alloc
abbrev bd' := @pw_below_drewN
abbrev be' := @below_drew1
abbrev bs' := @below_set
abbrev kn' := @blk_drewN
abbrev kd' := @blk_drew
abbrev ka' := @blk_alloc
abbrev ra' := @Kd.R_alloc
abbrev rn' := @Kd.R_drewN
abbrev rw' := @Kd.R_drew
abbrev ca' := @Kd.C_alloc
abbrev cn' := @Kd.C_drewN
abbrev cd' := @Kd.C_drew
abbrev am' := @Aside0.mk
abbrev sa' := @List.setIfInBounds_toArray
abbrev sb' := @List.set_cons_zero
abbrev sc' := @List.set_cons_succ
abbrev bl' := @World.block_lt_of_cell?
end Go.Proofs.Ytikjdmiohpdnaaa.H
