import Derived.Test.YtpobeakggacdpaaC10zWInv
import Derived.Test.YtpobeakggacdpaaC10zWFootNe
namespace Go.Proofs.YtpobeakggacdpaaW.PrintWords
open Go.RowKit
end Go.Proofs.YtpobeakggacdpaaW.PrintWords
namespace Go.Proofs.YtpobeakggacdpaaW.PrintLast
section
variable {ops : Array Oper} {a : Act} {o og : Oper} {g : Nat} {t : Tmp} {u : Bool}
end
end Go.Proofs.YtpobeakggacdpaaW.PrintLast
