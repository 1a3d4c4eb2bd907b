import Derived.Test.YtikjdmiohpdnaaaC2zWWords
import Derived.Test.YtikjdmiohpdnaaaC2zWLast
import Derived.Test.YtikjdmiohpdnaaaC2zWTab
import Derived.Test.YtikjdmiohpdnaaaC2zWFour
import Derived.Test.YtikjdmiohpdnaaaC2zWQPut
import Derived.Test.YtikjdmiohpdnaaaC2zWApart
import Derived.Test.YtikjdmiohpdnaaaC2zWArr
import Derived.Test.YtikjdmiohpdnaaaC2zWZeros
import Derived.Test.YtikjdmiohpdnaaaC2zWFoot
import Derived.Test.YtikjdmiohpdnaaaC2zWKept
import Derived.Test.YtikjdmiohpdnaaaC2zWShare
import Derived.Test.YtikjdmiohpdnaaaC2zWN
import Derived.Test.YtikjdmiohpdnaaaC2zWFootNe
import Derived.Test.YtikjdmiohpdnaaaC2zWAt
import Derived.Test.YtikjdmiohpdnaaaC2zWEqStruct
import Derived.Test.YtikjdmiohpdnaaaC2zWRepsOne
import Derived.Test.YtikjdmiohpdnaaaC2zWInv
import Derived.Test.YtikjdmiohpdnaaaC2zWInvWords
import Derived.Test.YtikjdmiohpdnaaaC2zWGuard
import Derived.Test.YtikjdmiohpdnaaaC2zWNEv
import Derived.Test.YtikjdmiohpdnaaaC2zWMore
import Derived.Shelf.Abstract
import Derived.WalkSpells
import Derived.Laws.CopyOwn
namespace Go.Proofs.Ytikjdmiohpdnaaa.H
open Go.RowKit Go.Proofs.YtikjdmiohpdnaaaW.PrintWords Go.Proofs.YtikjdmiohpdnaaaW.PrintLast Go.Proofs.YtikjdmiohpdnaaaW.PrintMore
abbrev ba' := @below_alloc
abbrev bd' := @pw_below_drewN
abbrev be' := @below_drew1
abbrev bs' := @below_set
abbrev kn' := @blk_drewN
abbrev kd' := @blk_drew
abbrev ka' := @blk_alloc
abbrev ra' := @Kd.R_alloc
abbrev rn' := @Kd.R_drewN
abbrev rw' := @Kd.R_drew
abbrev ca' := @Kd.C_alloc
abbrev cn' := @Kd.C_drewN
abbrev cd' := @Kd.C_drew
abbrev am' := @Aside0.mk
abbrev sa' := @List.setIfInBounds_toArray
abbrev sb' := @List.set_cons_zero
abbrev sc' := @List.set_cons_succ
abbrev bl' := @World.block_lt_of_cell?
end Go.Proofs.Ytikjdmiohpdnaaa.H
