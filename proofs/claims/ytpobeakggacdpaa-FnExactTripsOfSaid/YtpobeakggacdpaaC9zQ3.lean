import Derived.Test.YtpobeakggacdpaaC9zx0
import Derived.Test.YtpobeakggacdpaaC9zH0
import Derived.Test.YtpobeakggacdpaaC9zH1
import Derived.Test.YtpobeakggacdpaaC9zQ0
import Derived.Test.YtpobeakggacdpaaC9zQ1
import Derived.Test.YtpobeakggacdpaaC9zQ2
namespace Go.Proofs.Ytpobeakggacdpaa.Pure
open Go.RowKit Go.Proofs.Ytpobeakggacdpaa.C9 Go.Proofs.Ytpobeakggacdpaa.H Go.Proofs.YtpobeakggacdpaaW.PrintWords Go.Proofs.YtpobeakggacdpaaW.PrintLast Go.Proofs.YtpobeakggacdpaaW.PrintMore
set_option linter.unusedVariables false
set_option linter.unusedSimpArgs false
end Go.Proofs.Ytpobeakggacdpaa.Pure
