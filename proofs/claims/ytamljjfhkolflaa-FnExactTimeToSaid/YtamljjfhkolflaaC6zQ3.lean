import Derived.Test.YtamljjfhkolflaaC6zx0
import Derived.Test.YtamljjfhkolflaaC6zH0
import Derived.Test.YtamljjfhkolflaaC6zH1
import Derived.Test.YtamljjfhkolflaaC6zQ0
import Derived.Test.YtamljjfhkolflaaC6zQ1
import Derived.Test.YtamljjfhkolflaaC6zQ2
namespace Go.Proofs.Ytamljjfhkolflaa.Pure
open Go.RowKit Go.Proofs.Ytamljjfhkolflaa.C6 Go.Proofs.Ytamljjfhkolflaa.H Go.Proofs.YtamljjfhkolflaaW.PrintWords Go.Proofs.YtamljjfhkolflaaW.PrintLast Go.Proofs.YtamljjfhkolflaaW.PrintMore
set_option linter.unusedVariables false
set_option linter.unusedSimpArgs false
end Go.Proofs.Ytamljjfhkolflaa.Pure
