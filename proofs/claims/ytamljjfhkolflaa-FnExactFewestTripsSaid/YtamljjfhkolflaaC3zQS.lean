import Derived.Test.YtamljjfhkolflaaC3zx0
import Derived.Test.YtamljjfhkolflaaC3zH0
import Derived.Test.YtamljjfhkolflaaC3zH1
import Derived.Test.YtamljjfhkolflaaC3zQ0
import Derived.Test.YtamljjfhkolflaaC3zQ1
import Derived.Test.YtamljjfhkolflaaC3zQ2
import Derived.Test.YtamljjfhkolflaaC3zQ3
import Derived.Test.YtamljjfhkolflaaC3zQ4
import Derived.Test.YtamljjfhkolflaaC3zQ5
namespace Go.Proofs.Ytamljjfhkolflaa.Pure
open Go.RowKit Go.Proofs.Ytamljjfhkolflaa.C3 Go.Proofs.Ytamljjfhkolflaa.H Go.Proofs.YtamljjfhkolflaaW.PrintWords Go.Proofs.YtamljjfhkolflaaW.PrintLast Go.Proofs.YtamljjfhkolflaaW.PrintMore
set_option linter.unusedVariables false
set_option linter.unusedSimpArgs false
end Go.Proofs.Ytamljjfhkolflaa.Pure
