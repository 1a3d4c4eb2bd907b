import Derived.Test.YtikjdmiohpdnaaaC1zWWords
import Derived.Test.YtikjdmiohpdnaaaC1zWLast
import Derived.Test.YtikjdmiohpdnaaaC1zWTab
import Derived.Test.YtikjdmiohpdnaaaC1zWFour
import Derived.Test.YtikjdmiohpdnaaaC1zWQPut
import Derived.Test.YtikjdmiohpdnaaaC1zWApart
import Derived.Test.YtikjdmiohpdnaaaC1zWArr
import Derived.Test.YtikjdmiohpdnaaaC1zWZeros
import Derived.Test.YtikjdmiohpdnaaaC1zWFoot
import Derived.Test.YtikjdmiohpdnaaaC1zWKept
import Derived.Test.YtikjdmiohpdnaaaC1zWShare
import Derived.Test.YtikjdmiohpdnaaaC1zWN
import Derived.Test.YtikjdmiohpdnaaaC1zWFootNe
import Derived.Test.YtikjdmiohpdnaaaC1zWAt
import Derived.Test.YtikjdmiohpdnaaaC1zWEqStruct
import Derived.Test.YtikjdmiohpdnaaaC1zWRepsOne
import Derived.Test.YtikjdmiohpdnaaaC1zWInv
import Derived.Test.YtikjdmiohpdnaaaC1zWInvWords
import Derived.Test.YtikjdmiohpdnaaaC1zWGuard
import Derived.Test.YtikjdmiohpdnaaaC1zWNEv
import Derived.Test.YtikjdmiohpdnaaaC1zWMore
import Derived.Shelf.Abstract
import Derived.WalkSpells
import Derived.Laws.CopyOwn
namespace Go.Proofs.Ytikjdmiohpdnaaa.H
open Go.RowKit Go.Proofs.YtikjdmiohpdnaaaW.PrintWords Go.Proofs.YtikjdmiohpdnaaaW.PrintLast Go.Proofs.YtikjdmiohpdnaaaW.PrintMore
abbrev ba' := @below_alloc
abbrev bd' := @pw_below_drewN
abbrev be' := @below_drew1
abbrev bs' := @below_set
abbrev kn' := @blk_drewN
abbrev kd' := @blk_drew
abbrev ka' := @blk_alloc
abbrev ra' := @Kd.R_alloc
abbrev rn' := @Kd.R_drewN
abbrev rw' := @Kd.R_drew
abbrev ca' := @Kd.C_alloc
abbrev cn' := @Kd.C_drewN
abbrev cd' := @Kd.C_drew
abbrev am' := @Aside0.mk
abbrev sa' := @List.setIfInBounds_toArray
abbrev sb' := @List.set_cons_zero
abbrev sc' := @List.set_cons_succ
abbrev bl' := @World.block_lt_of_cell?
end Go.Proofs.Ytikjdmiohpdnaaa.H
