import Derived.Test.YtikjdmiohpdnaaaC5zx0
import Derived.Test.YtikjdmiohpdnaaaC5zH0
import Derived.Test.YtikjdmiohpdnaaaC5zH1
import Derived.Test.YtikjdmiohpdnaaaC5zQ0
import Derived.Test.YtikjdmiohpdnaaaC5zQ1
import Derived.Test.YtikjdmiohpdnaaaC5zQ2
import Derived.Test.YtikjdmiohpdnaaaC5zQ3
import Derived.Test.YtikjdmiohpdnaaaC5zQ4
namespace Go.Proofs.Ytikjdmiohpdnaaa.Pure
open Go.RowKit Go.Proofs.Ytikjdmiohpdnaaa.C5 Go.Proofs.Ytikjdmiohpdnaaa.H Go.Proofs.YtikjdmiohpdnaaaW.PrintWords Go.Proofs.YtikjdmiohpdnaaaW.PrintLast Go.Proofs.YtikjdmiohpdnaaaW.PrintMore
set_option linter.unusedVariables false
set_option linter.unusedSimpArgs false
end Go.Proofs.Ytikjdmiohpdnaaa.Pure
