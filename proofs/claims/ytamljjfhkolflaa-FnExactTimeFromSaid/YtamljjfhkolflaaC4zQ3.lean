import Derived.Test.YtamljjfhkolflaaC4zx0
import Derived.Test.YtamljjfhkolflaaC4zH0
import Derived.Test.YtamljjfhkolflaaC4zH1
import Derived.Test.YtamljjfhkolflaaC4zQ0
import Derived.Test.YtamljjfhkolflaaC4zQ1
import Derived.Test.YtamljjfhkolflaaC4zQ2
namespace Go.Proofs.Ytamljjfhkolflaa.Pure
open Go.RowKit Go.Proofs.Ytamljjfhkolflaa.C4 Go.Proofs.Ytamljjfhkolflaa.H Go.Proofs.YtamljjfhkolflaaW.PrintWords Go.Proofs.YtamljjfhkolflaaW.PrintLast Go.Proofs.YtamljjfhkolflaaW.PrintMore
set_option linter.unusedVariables false
set_option linter.unusedSimpArgs false
end Go.Proofs.Ytamljjfhkolflaa.Pure
