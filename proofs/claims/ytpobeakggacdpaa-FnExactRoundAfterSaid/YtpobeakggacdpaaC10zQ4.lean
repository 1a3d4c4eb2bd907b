import Derived.Test.YtpobeakggacdpaaC10zx0
import Derived.Test.YtpobeakggacdpaaC10zx7
import Derived.Test.YtpobeakggacdpaaC10zH0
import Derived.Test.YtpobeakggacdpaaC10zH1
import Derived.Test.YtpobeakggacdpaaC10zQ0
import Derived.Test.YtpobeakggacdpaaC10zQ1
import Derived.Test.YtpobeakggacdpaaC10zQ2
import Derived.Test.YtpobeakggacdpaaC10zQ3
namespace Go.Proofs.Ytpobeakggacdpaa.Pure
open Go.RowKit Go.Proofs.Ytpobeakggacdpaa.C10 Go.Proofs.Ytpobeakggacdpaa.H Go.Proofs.YtpobeakggacdpaaW.PrintWords Go.Proofs.YtpobeakggacdpaaW.PrintLast Go.Proofs.YtpobeakggacdpaaW.PrintMore
set_option linter.unusedVariables false
set_option linter.unusedSimpArgs false
theorem tripP_in {n : Nat} {s : Int} {t : List Int} (h : tripP n s t = true) : ∀ x ∈ t, 0 ≤ x ∧ x < (n : Int) := by
  unfold tripP at h
  simp only [Bool.and_eq_true, List.all_eq_true] at h
  intro x hx
  have := h.1.2 x hx
  simp only [inB, Bool.and_eq_true, decide_eq_true_eq] at this
  omega
theorem are_eq (st : List Bool) (b : Bool) (t : List Int) (c : Bool) (h : ∀ x ∈ t, 0 ≤ x ∧ x < (st.length : Int)) : impl_State_are.f st b t c = some (t.all fun x => rdOf false st x == c) := by
  unfold impl_State_are.f
  rw [if_pos]
  rw [List.all_eq_true]
  intro x hx
  have := h x hx
  simp [this.1, this.2]
end Go.Proofs.Ytpobeakggacdpaa.Pure
