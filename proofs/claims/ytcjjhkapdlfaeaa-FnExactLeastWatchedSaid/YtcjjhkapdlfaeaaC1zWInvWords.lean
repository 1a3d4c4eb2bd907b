import Derived.Test.YtcjjhkapdlfaeaaC1zWInv
import Derived.Test.YtcjjhkapdlfaeaaC1zWFootNe
namespace Go.Proofs.YtcjjhkapdlfaeaaW.PrintWords
open Go.RowKit
end Go.Proofs.YtcjjhkapdlfaeaaW.PrintWords
namespace Go.Proofs.YtcjjhkapdlfaeaaW.PrintLast
section
variable {ops : Array Oper} {a : Act} {o og : Oper} {g : Nat} {t : Tmp} {u : Bool}
end
end Go.Proofs.YtcjjhkapdlfaeaaW.PrintLast
