import Derived.Test.YtdomojenlofieaaC2zWInv
import Derived.Test.YtdomojenlofieaaC2zWFootNe
namespace Go.Proofs.YtdomojenlofieaaW.PrintWords
open Go.RowKit
end Go.Proofs.YtdomojenlofieaaW.PrintWords
namespace Go.Proofs.YtdomojenlofieaaW.PrintLast
section
variable {ops:Array Oper} {a:Act} {o og:Oper} {g:Nat} {t:Tmp} {u:Bool}
end
end Go.Proofs.YtdomojenlofieaaW.PrintLast
