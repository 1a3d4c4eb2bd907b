import Derived.Test.YtikjdmiohpdnaaaC14zWWords
import Derived.Test.YtikjdmiohpdnaaaC14zWLast
import Derived.Test.YtikjdmiohpdnaaaC14zWTab
import Derived.Test.YtikjdmiohpdnaaaC14zWFour
import Derived.Test.YtikjdmiohpdnaaaC14zWQPut
import Derived.Test.YtikjdmiohpdnaaaC14zWApart
import Derived.Test.YtikjdmiohpdnaaaC14zWArr
import Derived.Test.YtikjdmiohpdnaaaC14zWZeros
import Derived.Test.YtikjdmiohpdnaaaC14zWFoot
import Derived.Test.YtikjdmiohpdnaaaC14zWKept
import Derived.Test.YtikjdmiohpdnaaaC14zWShare
import Derived.Test.YtikjdmiohpdnaaaC14zWN
import Derived.Test.YtikjdmiohpdnaaaC14zWFootNe
import Derived.Test.YtikjdmiohpdnaaaC14zWAt
import Derived.Test.YtikjdmiohpdnaaaC14zWEqStruct
import Derived.Test.YtikjdmiohpdnaaaC14zWRepsOne
import Derived.Test.YtikjdmiohpdnaaaC14zWInv
import Derived.Test.YtikjdmiohpdnaaaC14zWInvWords
import Derived.Test.YtikjdmiohpdnaaaC14zWGuard
import Derived.Test.YtikjdmiohpdnaaaC14zWNEv
import Derived.Test.YtikjdmiohpdnaaaC14zWMore
import Derived.Test.YtikjdmiohpdnaaaC14zHG
import Derived.Shelf.Abstract
import Derived.WalkSpells
import Derived.Laws.CopyOwn
namespace Go.Proofs.Ytikjdmiohpdnaaa.H
open Go.RowKit Go.Proofs.YtikjdmiohpdnaaaW.PrintWords Go.Proofs.YtikjdmiohpdnaaaW.PrintLast Go.Proofs.YtikjdmiohpdnaaaW.PrintMore
abbrev ba' := @below_alloc
abbrev bd' := @pw_below_drewN
abbrev be' := @below_drew1
abbrev bs' := @below_set
abbrev kn' := @blk_drewN
abbrev kd' := @blk_drew
abbrev ka' := @blk_alloc
abbrev ra' := @Kd.R_alloc
abbrev rn' := @Kd.R_drewN
abbrev rw' := @Kd.R_drew
abbrev ca' := @Kd.C_alloc
abbrev cn' := @Kd.C_drewN
abbrev cd' := @Kd.C_drew
abbrev am' := @Aside0.mk
abbrev sa' := @List.setIfInBounds_toArray
abbrev sb' := @List.set_cons_zero
abbrev sc' := @List.set_cons_succ
abbrev bl' := @World.block_lt_of_cell?
end Go.Proofs.Ytikjdmiohpdnaaa.H
