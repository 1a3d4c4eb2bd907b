import Derived.Test.YtikjdmiohpdnaaaC5zWWords
import Derived.Test.YtikjdmiohpdnaaaC5zWLast
import Derived.Test.YtikjdmiohpdnaaaC5zWTab
import Derived.Test.YtikjdmiohpdnaaaC5zWFour
import Derived.Test.YtikjdmiohpdnaaaC5zWQPut
import Derived.Test.YtikjdmiohpdnaaaC5zWApart
import Derived.Test.YtikjdmiohpdnaaaC5zWArr
import Derived.Test.YtikjdmiohpdnaaaC5zWZeros
import Derived.Test.YtikjdmiohpdnaaaC5zWFoot
import Derived.Test.YtikjdmiohpdnaaaC5zWKept
import Derived.Test.YtikjdmiohpdnaaaC5zWShare
import Derived.Test.YtikjdmiohpdnaaaC5zWN
import Derived.Test.YtikjdmiohpdnaaaC5zWFootNe
import Derived.Test.YtikjdmiohpdnaaaC5zWAt
import Derived.Test.YtikjdmiohpdnaaaC5zWEqStruct
import Derived.Test.YtikjdmiohpdnaaaC5zWRepsOne
import Derived.Test.YtikjdmiohpdnaaaC5zWInv
import Derived.Test.YtikjdmiohpdnaaaC5zWInvWords
import Derived.Test.YtikjdmiohpdnaaaC5zWGuard
import Derived.Test.YtikjdmiohpdnaaaC5zWNEv
import Derived.Test.YtikjdmiohpdnaaaC5zWMore
import Derived.Shelf.Abstract
import Derived.WalkSpells
import Derived.Laws.CopyOwn
namespace Go.Proofs.Ytikjdmiohpdnaaa.H
open Go.RowKit Go.Proofs.YtikjdmiohpdnaaaW.PrintWords Go.Proofs.YtikjdmiohpdnaaaW.PrintLast Go.Proofs.YtikjdmiohpdnaaaW.PrintMore
abbrev ba' := @below_alloc
abbrev bd' := @pw_below_drewN
abbrev be' := @below_drew1
abbrev bs' := @below_set
abbrev kn' := @blk_drewN
abbrev kd' := @blk_drew
abbrev ka' := @blk_alloc
abbrev ra' := @Kd.R_alloc
abbrev rn' := @Kd.R_drewN
abbrev rw' := @Kd.R_drew
abbrev ca' := @Kd.C_alloc
abbrev cn' := @Kd.C_drewN
abbrev cd' := @Kd.C_drew
abbrev am' := @Aside0.mk
abbrev sa' := @List.setIfInBounds_toArray
abbrev sb' := @List.set_cons_zero
abbrev sc' := @List.set_cons_succ
abbrev bl' := @World.block_lt_of_cell?
end Go.Proofs.Ytikjdmiohpdnaaa.H
