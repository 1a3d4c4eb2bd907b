import Derived.Test.YtamljjfhkolflaaC1zx0
import Derived.Test.YtamljjfhkolflaaC1zH0
import Derived.Test.YtamljjfhkolflaaC1zH1
import Derived.Test.YtamljjfhkolflaaC1zQ0
import Derived.Test.YtamljjfhkolflaaC1zQ1
import Derived.Test.YtamljjfhkolflaaC1zQ2
namespace Go.Proofs.Ytamljjfhkolflaa.Pure
open Go.RowKit Go.Proofs.Ytamljjfhkolflaa.C1 Go.Proofs.Ytamljjfhkolflaa.H Go.Proofs.YtamljjfhkolflaaW.PrintWords Go.Proofs.YtamljjfhkolflaaW.PrintLast Go.Proofs.YtamljjfhkolflaaW.PrintMore
set_option linter.unusedVariables false
set_option linter.unusedSimpArgs false
end Go.Proofs.Ytamljjfhkolflaa.Pure
