import Derived.Test.YtabhhkiipilghaaC1zWWords
import Derived.Test.YtabhhkiipilghaaC1zWMore
import Derived.Test.YtabhhkiipilghaaC1zWLast
import Derived.Deep.Slices
import Derived.ChangeArms
import Derived.WalkKit
namespace Go.Proofs.Ytabhhkiipilghaa.H
open Go.RowKit Go.Proofs.YtabhhkiipilghaaW.PrintWords Go.Proofs.YtabhhkiipilghaaW.PrintLast Go.Proofs.YtabhhkiipilghaaW.PrintMore
attribute [local go_sem] max2_int min2_int max_two min_two max_three min_three max_four min_four
set_option linter.unusedVariables false
set_option linter.unusedSimpArgs false
def goodI (n:Int):Prop := -9223372036854775808≤n∧n≤9223372036854775807
theorem goodI_of_wf {n:Int} (h:(Lit.int .i64 n).wf=true):goodI n:=by
 simp[Lit.wf,IntKind.min,IntKind.max,IntKind.signed,IntKind.bits] at h
 unfold goodI
 omega
end Go.Proofs.Ytabhhkiipilghaa.H
