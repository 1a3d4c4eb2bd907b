import Derived.Test.YtmfofjloklafoaaC7zWInv
import Derived.Test.YtmfofjloklafoaaC7zWFootNe
namespace Go.Proofs.YtmfofjloklafoaaW.PrintWords
open Go.RowKit
end Go.Proofs.YtmfofjloklafoaaW.PrintWords
namespace Go.Proofs.YtmfofjloklafoaaW.PrintLast
section
variable {ops : Array Oper} {a : Act} {o og : Oper} {g : Nat} {t : Tmp} {u : Bool}
end
end Go.Proofs.YtmfofjloklafoaaW.PrintLast
