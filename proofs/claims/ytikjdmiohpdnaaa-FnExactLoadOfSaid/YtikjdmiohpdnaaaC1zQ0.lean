import Derived.Test.YtikjdmiohpdnaaaC1zx0
import Derived.Test.YtikjdmiohpdnaaaC1zH0
import Derived.Test.YtikjdmiohpdnaaaC1zH1
namespace Go.Proofs.Ytikjdmiohpdnaaa.Pure
open Go.RowKit Go.Proofs.Ytikjdmiohpdnaaa.C1 Go.Proofs.Ytikjdmiohpdnaaa.H Go.Proofs.YtikjdmiohpdnaaaW.PrintWords Go.Proofs.YtikjdmiohpdnaaaW.PrintLast Go.Proofs.YtikjdmiohpdnaaaW.PrintMore
set_option linter.unusedVariables false
set_option linter.unusedSimpArgs false
end Go.Proofs.Ytikjdmiohpdnaaa.Pure
