import Derived.Test.YtibdeohiimjocaaC19zWInv
import Derived.Test.YtibdeohiimjocaaC19zWFootNe
namespace Go.Proofs.YtibdeohiimjocaaW.PrintWords
open Go.RowKit
end Go.Proofs.YtibdeohiimjocaaW.PrintWords
namespace Go.Proofs.YtibdeohiimjocaaW.PrintLast
section
variable {ops : Array Oper} {a : Act} {o og : Oper} {g : Nat} {t : Tmp} {u : Bool}
end
end Go.Proofs.YtibdeohiimjocaaW.PrintLast
