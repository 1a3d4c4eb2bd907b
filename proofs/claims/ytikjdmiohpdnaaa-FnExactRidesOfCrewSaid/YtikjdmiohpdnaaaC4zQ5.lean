import Derived.Test.YtikjdmiohpdnaaaC4zx0
import Derived.Test.YtikjdmiohpdnaaaC4zH0
import Derived.Test.YtikjdmiohpdnaaaC4zH1
import Derived.Test.YtikjdmiohpdnaaaC4zQ0
import Derived.Test.YtikjdmiohpdnaaaC4zQ1
import Derived.Test.YtikjdmiohpdnaaaC4zQ2
import Derived.Test.YtikjdmiohpdnaaaC4zQ3
import Derived.Test.YtikjdmiohpdnaaaC4zQ4
namespace Go.Proofs.Ytikjdmiohpdnaaa.Pure
open Go.RowKit Go.Proofs.Ytikjdmiohpdnaaa.C4 Go.Proofs.Ytikjdmiohpdnaaa.H Go.Proofs.YtikjdmiohpdnaaaW.PrintWords Go.Proofs.YtikjdmiohpdnaaaW.PrintLast Go.Proofs.YtikjdmiohpdnaaaW.PrintMore
set_option linter.unusedVariables false
set_option linter.unusedSimpArgs false
end Go.Proofs.Ytikjdmiohpdnaaa.Pure
