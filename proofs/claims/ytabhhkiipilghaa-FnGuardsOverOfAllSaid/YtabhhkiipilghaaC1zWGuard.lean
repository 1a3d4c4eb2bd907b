import Derived.Test.YtabhhkiipilghaaC1zWWords
namespace Go.Proofs.YtabhhkiipilghaaW.PrintWords
open Go.RowKit
section
variable {P:Program} {ops:Array Oper} {rest:List Oper} {o:Oper} {a:Act} {Q:Exit→Act→World→Prop} {W:World}
end
end Go.Proofs.YtabhhkiipilghaaW.PrintWords
