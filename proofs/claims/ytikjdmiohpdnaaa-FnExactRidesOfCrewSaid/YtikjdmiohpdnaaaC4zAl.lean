import Derived.Test.YtikjdmiohpdnaaaC4zWWords
import Derived.Test.YtikjdmiohpdnaaaC4zWLast
import Derived.Test.YtikjdmiohpdnaaaC4zWTab
import Derived.Test.YtikjdmiohpdnaaaC4zWFour
import Derived.Test.YtikjdmiohpdnaaaC4zWQPut
import Derived.Test.YtikjdmiohpdnaaaC4zWApart
import Derived.Test.YtikjdmiohpdnaaaC4zWArr
import Derived.Test.YtikjdmiohpdnaaaC4zWZeros
import Derived.Test.YtikjdmiohpdnaaaC4zWFoot
import Derived.Test.YtikjdmiohpdnaaaC4zWKept
import Derived.Test.YtikjdmiohpdnaaaC4zWShare
import Derived.Test.YtikjdmiohpdnaaaC4zWN
import Derived.Test.YtikjdmiohpdnaaaC4zWFootNe
import Derived.Test.YtikjdmiohpdnaaaC4zWAt
import Derived.Test.YtikjdmiohpdnaaaC4zWEqStruct
import Derived.Test.YtikjdmiohpdnaaaC4zWRepsOne
import Derived.Test.YtikjdmiohpdnaaaC4zWInv
import Derived.Test.YtikjdmiohpdnaaaC4zWInvWords
import Derived.Test.YtikjdmiohpdnaaaC4zWGuard
import Derived.Test.YtikjdmiohpdnaaaC4zWNEv
import Derived.Test.YtikjdmiohpdnaaaC4zWMore
import Derived.Shelf.Abstract
import Derived.WalkSpells
import Derived.Laws.CopyOwn
namespace Go.Proofs.Ytikjdmiohpdnaaa.H
open Go.RowKit Go.Proofs.YtikjdmiohpdnaaaW.PrintWords Go.Proofs.YtikjdmiohpdnaaaW.PrintLast Go.Proofs.YtikjdmiohpdnaaaW.PrintMore
abbrev ba' := @below_alloc
abbrev bd' := @pw_below_drewN
abbrev be' := @below_drew1
abbrev bs' := @below_set
abbrev kn' := @blk_drewN
abbrev kd' := @blk_drew
abbrev ka' := @blk_alloc
abbrev ra' := @Kd.R_alloc
abbrev rn' := @Kd.R_drewN
abbrev rw' := @Kd.R_drew
abbrev ca' := @Kd.C_alloc
abbrev cn' := @Kd.C_drewN
abbrev cd' := @Kd.C_drew
abbrev am' := @Aside0.mk
abbrev sa' := @List.setIfInBounds_toArray
abbrev sb' := @List.set_cons_zero
abbrev sc' := @List.set_cons_succ
abbrev bl' := @World.block_lt_of_cell?
end Go.Proofs.Ytikjdmiohpdnaaa.H
