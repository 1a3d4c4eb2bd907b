import Derived.Test.YtibdeohiimjocaaC7zx0
import Derived.Test.YtibdeohiimjocaaC7zx5
import Derived.Test.YtibdeohiimjocaaC7zH0
import Derived.Test.YtibdeohiimjocaaC7zH1
import Derived.Test.YtibdeohiimjocaaC7zQ0
import Derived.Test.YtibdeohiimjocaaC7zQV
import Derived.Test.YtibdeohiimjocaaC7zQW
import Derived.Test.YtibdeohiimjocaaC7zQX
namespace Go.Proofs.Ytibdeohiimjocaa.Pure
open Go.RowKit Go.Proofs.Ytibdeohiimjocaa.C7 Go.Proofs.Ytibdeohiimjocaa.H Go.Proofs.YtibdeohiimjocaaW.PrintWords Go.Proofs.YtibdeohiimjocaaW.PrintLast Go.Proofs.YtibdeohiimjocaaW.PrintMore
set_option linter.unusedVariables false
set_option linter.unusedSimpArgs false
theorem FnExactFewestForGuards_pure : ∀ (a0 a1 a2 : Int), goodI a0 → goodI a1 → goodI a2 → ∃ k, laws_FnExactFewestForGuards.f k a0 a1 a2 = some true := by
  intro a0 a1 a2 _ _ _
  obtain ⟨d, ok, m, h1, h2, h3⟩ := guards_all a0 a1 a2
  have h4 : Ev (fun k => impl_FewestForGuards.f k a0 a1 a2) (if ok = true then (m, true) else (0, false)) := by
    unfold impl_FewestForGuards.f
    refine Ev.bind h1 ?_
    cases ok with
    | false => exact Ev.now _
    | true => simp only [if_true]; rw [h2 rfl]; exact Ev.now _
  generalize (if ok = true then (m, true) else ((0 : Int), false)) = r at h3 h4
  refine Ev.rounds ?_
  unfold laws_FnExactFewestForGuards.f
  refine Ev.bind h3 (Ev.bind h4 ?_)
  simp only [if_true, bne_self_eq_false, Bool.false_eq_true, if_false]
  exact Ev.now _
end Go.Proofs.Ytibdeohiimjocaa.Pure
