import Derived.Test.YtikjdmiohpdnaaaC13zWWords
import Derived.Test.YtikjdmiohpdnaaaC13zWLast
import Derived.Test.YtikjdmiohpdnaaaC13zWTab
import Derived.Test.YtikjdmiohpdnaaaC13zWFour
import Derived.Test.YtikjdmiohpdnaaaC13zWQPut
import Derived.Test.YtikjdmiohpdnaaaC13zWApart
import Derived.Test.YtikjdmiohpdnaaaC13zWArr
import Derived.Test.YtikjdmiohpdnaaaC13zWZeros
import Derived.Test.YtikjdmiohpdnaaaC13zWFoot
import Derived.Test.YtikjdmiohpdnaaaC13zWKept
import Derived.Test.YtikjdmiohpdnaaaC13zWShare
import Derived.Test.YtikjdmiohpdnaaaC13zWN
import Derived.Test.YtikjdmiohpdnaaaC13zWFootNe
import Derived.Test.YtikjdmiohpdnaaaC13zWAt
import Derived.Test.YtikjdmiohpdnaaaC13zWEqStruct
import Derived.Test.YtikjdmiohpdnaaaC13zWRepsOne
import Derived.Test.YtikjdmiohpdnaaaC13zWInv
import Derived.Test.YtikjdmiohpdnaaaC13zWInvWords
import Derived.Test.YtikjdmiohpdnaaaC13zWGuard
import Derived.Test.YtikjdmiohpdnaaaC13zWNEv
import Derived.Test.YtikjdmiohpdnaaaC13zWMore
import Derived.Test.YtikjdmiohpdnaaaC13zHG
import Derived.Shelf.Abstract
import Derived.WalkSpells
import Derived.Laws.CopyOwn
namespace Go.Proofs.Ytikjdmiohpdnaaa.H
open Go.RowKit Go.Proofs.YtikjdmiohpdnaaaW.PrintWords Go.Proofs.YtikjdmiohpdnaaaW.PrintLast Go.Proofs.YtikjdmiohpdnaaaW.PrintMore
abbrev ba' := @below_alloc
abbrev bd' := @pw_below_drewN
abbrev be' := @below_drew1
abbrev bs' := @below_set
abbrev kn' := @blk_drewN
abbrev kd' := @blk_drew
abbrev ka' := @blk_alloc
abbrev ra' := @Kd.R_alloc
abbrev rn' := @Kd.R_drewN
abbrev rw' := @Kd.R_drew
abbrev ca' := @Kd.C_alloc
abbrev cn' := @Kd.C_drewN
abbrev cd' := @Kd.C_drew
abbrev am' := @Aside0.mk
abbrev sa' := @List.setIfInBounds_toArray
abbrev sb' := @List.set_cons_zero
abbrev sc' := @List.set_cons_succ
abbrev bl' := @World.block_lt_of_cell?
end Go.Proofs.Ytikjdmiohpdnaaa.H
