import Derived.Test.YtikjdmiohpdnaaaC20zWInv
import Derived.Test.YtikjdmiohpdnaaaC20zWFootNe
namespace Go.Proofs.YtikjdmiohpdnaaaW.PrintWords
open Go.RowKit
end Go.Proofs.YtikjdmiohpdnaaaW.PrintWords
namespace Go.Proofs.YtikjdmiohpdnaaaW.PrintLast
section
variable {ops:Array Oper} {a:Act} {o og:Oper} {g:Nat} {t:Tmp} {u:Bool}
end
end Go.Proofs.YtikjdmiohpdnaaaW.PrintLast
