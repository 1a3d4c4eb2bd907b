import Derived.Test.YtmfofjloklafoaaC5zWWords
namespace Go.Proofs.YtmfofjloklafoaaW.PrintWords
open Go.RowKit
section
variable {P:Program} {ops:Array Oper} {rest:List Oper} {o:Oper} {a:Act} {Q:Exit→Act→World→Prop} {W:World}
end
end Go.Proofs.YtmfofjloklafoaaW.PrintWords
