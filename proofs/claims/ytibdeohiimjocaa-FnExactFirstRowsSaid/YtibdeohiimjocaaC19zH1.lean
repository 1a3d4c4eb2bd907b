import Derived.Test.YtibdeohiimjocaaC19zWWords
import Derived.Test.YtibdeohiimjocaaC19zWMore
import Derived.Test.YtibdeohiimjocaaC19zWLast
import Derived.Deep.Slices
import Derived.ChangeArms
import Derived.WalkKit
namespace Go.Proofs.Ytibdeohiimjocaa.H
open Go.RowKit Go.Proofs.YtibdeohiimjocaaW.PrintWords Go.Proofs.YtibdeohiimjocaaW.PrintLast Go.Proofs.YtibdeohiimjocaaW.PrintMore
attribute [local go_sem] max2_int min2_int max_two min_two max_three min_three max_four min_four
set_option linter.unusedVariables false
set_option linter.unusedSimpArgs false
def Opens (P : Program) (w : World) (t : TypeId) {α : Type} (d : Kd α) (good : α → Prop) : Prop :=
  ∀ (H : Type) (enc : TypeId × Value → H) (fuel : Nat) (cs : List Value) (x : DataW H × List MemPlace), DataW.trod enc P w 0 (fun _ => true) true fuel t cs = some x → ∃ y, d.K w y cs ∧ good y
def goodI (n : Int) : Prop := -9223372036854775808 ≤ n ∧ n ≤ 9223372036854775807
theorem goodI_of_wf {n : Int} (h : (Lit.int .i64 n).wf = true) : goodI n := by
  simp [Lit.wf, IntKind.min, IntKind.max, IntKind.signed, IntKind.bits] at h
  unfold goodI
  omega
theorem opens_int {P : Program} {w : World} {t : TypeId} (ht : P.underlying t = some (.int .i64)) : Opens P w t (Kd.int .i64) goodI := by
  intro H enc fuel cs x h
  obtain ⟨n, rfl, _, hw⟩ := DataW.trod_int ht h
  exact ⟨n, rfl, goodI_of_wf hw⟩
theorem open_one {P : Program} {w : World} {t : TypeId} {H : Type} {enc : TypeId × Value → H} {fuel : Nat} {v : Value} {x : DataW H × List MemPlace} (ht : P.underlying t = some (.int .i64)) (h : DataW.trod enc P w 0 (fun _ => true) true fuel t [v] = some x) : ∃ n : Int, v = .int .i64 n ∧ goodI n := by
  obtain ⟨n, hv, hg⟩ := opens_int ht H enc fuel [v] x h
  exact ⟨n, by simpa [Kd.int, Kd.scalar] using hv, hg⟩
end Go.Proofs.Ytibdeohiimjocaa.H
