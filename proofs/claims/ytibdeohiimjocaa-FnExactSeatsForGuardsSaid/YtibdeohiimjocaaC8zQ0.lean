import Derived.Test.YtibdeohiimjocaaC8zx0
import Derived.Test.YtibdeohiimjocaaC8zH0
import Derived.Test.YtibdeohiimjocaaC8zH1
namespace Go.Proofs.Ytibdeohiimjocaa.Pure
open Go.RowKit Go.Proofs.Ytibdeohiimjocaa.C8 Go.Proofs.Ytibdeohiimjocaa.H Go.Proofs.YtibdeohiimjocaaW.PrintWords Go.Proofs.YtibdeohiimjocaaW.PrintLast Go.Proofs.YtibdeohiimjocaaW.PrintMore
set_option linter.unusedVariables false
set_option linter.unusedSimpArgs false
end Go.Proofs.Ytibdeohiimjocaa.Pure
