import Derived.Test.YtabhhkiipilghaaC2zWInv
import Derived.Test.YtabhhkiipilghaaC2zWFootNe
namespace Go.Proofs.YtabhhkiipilghaaW.PrintWords
open Go.RowKit
end Go.Proofs.YtabhhkiipilghaaW.PrintWords
namespace Go.Proofs.YtabhhkiipilghaaW.PrintLast
section
variable {ops:Array Oper} {a:Act} {o og:Oper} {g:Nat} {t:Tmp} {u:Bool}
end
end Go.Proofs.YtabhhkiipilghaaW.PrintLast
