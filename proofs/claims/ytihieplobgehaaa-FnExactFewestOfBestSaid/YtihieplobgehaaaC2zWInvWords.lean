import Derived.Test.YtihieplobgehaaaC2zWInv
import Derived.Test.YtihieplobgehaaaC2zWFootNe
namespace Go.Proofs.YtihieplobgehaaaW.PrintWords
open Go.RowKit
end Go.Proofs.YtihieplobgehaaaW.PrintWords
namespace Go.Proofs.YtihieplobgehaaaW.PrintLast
section
variable {ops:Array Oper} {a:Act} {o og:Oper} {g:Nat} {t:Tmp} {u:Bool}
end
end Go.Proofs.YtihieplobgehaaaW.PrintLast
