import Derived.Test.YtamljjfhkolflaaC2zx0
import Derived.Test.YtamljjfhkolflaaC2zH0
import Derived.Test.YtamljjfhkolflaaC2zH1
import Derived.Test.YtamljjfhkolflaaC2zQ0
import Derived.Test.YtamljjfhkolflaaC2zQ1
import Derived.Test.YtamljjfhkolflaaC2zQ2
namespace Go.Proofs.Ytamljjfhkolflaa.Pure
open Go.RowKit Go.Proofs.Ytamljjfhkolflaa.C2 Go.Proofs.Ytamljjfhkolflaa.H Go.Proofs.YtamljjfhkolflaaW.PrintWords Go.Proofs.YtamljjfhkolflaaW.PrintLast Go.Proofs.YtamljjfhkolflaaW.PrintMore
set_option linter.unusedVariables false
set_option linter.unusedSimpArgs false
end Go.Proofs.Ytamljjfhkolflaa.Pure
