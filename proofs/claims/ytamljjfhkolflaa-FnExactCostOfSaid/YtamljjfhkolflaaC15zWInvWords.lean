import Derived.Test.YtamljjfhkolflaaC15zWInv
import Derived.Test.YtamljjfhkolflaaC15zWFootNe
namespace Go.Proofs.YtamljjfhkolflaaW.PrintWords
open Go.RowKit
end Go.Proofs.YtamljjfhkolflaaW.PrintWords
namespace Go.Proofs.YtamljjfhkolflaaW.PrintLast
section
variable {ops : Array Oper} {a : Act} {o og : Oper} {g : Nat} {t : Tmp} {u : Bool}
end
end Go.Proofs.YtamljjfhkolflaaW.PrintLast
