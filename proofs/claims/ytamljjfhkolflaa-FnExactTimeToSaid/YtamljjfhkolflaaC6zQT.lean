import Derived.Test.YtamljjfhkolflaaC6zx0
import Derived.Test.YtamljjfhkolflaaC6zx4
import Derived.Test.YtamljjfhkolflaaC6zH0
import Derived.Test.YtamljjfhkolflaaC6zH1
import Derived.Test.YtamljjfhkolflaaC6zQ0
import Derived.Test.YtamljjfhkolflaaC6zQ1
import Derived.Test.YtamljjfhkolflaaC6zQ2
import Derived.Test.YtamljjfhkolflaaC6zQ3
import Derived.Test.YtamljjfhkolflaaC6zQ4
import Derived.Test.YtamljjfhkolflaaC6zQ5
import Derived.Test.YtamljjfhkolflaaC6zQS
import Derived.Test.YtamljjfhkolflaaC6zQG
import Derived.Test.YtamljjfhkolflaaC6zQN
import Derived.Test.YtamljjfhkolflaaC6zQP
namespace Go.Proofs.Ytamljjfhkolflaa.Pure
open Go.RowKit Go.Proofs.Ytamljjfhkolflaa.C6 Go.Proofs.Ytamljjfhkolflaa.H Go.Proofs.YtamljjfhkolflaaW.PrintWords Go.Proofs.YtamljjfhkolflaaW.PrintLast Go.Proofs.YtamljjfhkolflaaW.PrintMore
set_option linter.unusedVariables false
set_option linter.unusedSimpArgs false
def timeP (l : List Int) : List Int → Int → Int
  | [], m => m
  | x :: r, m => timeP l r (if m > rd l x then m else rd l x)
theorem paTime_loop (l : List Int) (s : Int) : ∀ (r pre : List Int) (m : Int), (pre ++ r).length ≤ 9223372036854775807 → (∀ x ∈ r, 0 ≤ x ∧ x < (l.length : Int)) → Ev (fun k => spec_paTime.l0 k m (pre ++ r) ((pre ++ r).length : Int) (pre.length : Int) l s) (timeP l r m) := by
  intro r
  induction r with
  | nil =>
    intro pre m hl hi
    refine Ev.step (f := fun _ => some _) (fun k => ?_) (Ev.now _)
    simp only [spec_paTime.l0]
    rw [if_neg (nlt_end pre)]
    rfl
  | cons x r ih =>
    intro pre m hl hi
    have hx := hi x (by simp)
    refine Ev.step (fun k => ?_) (ih (pre ++ [x]) (if m > rd l x then m else rd l x) (by simpa using hl) (fun y hy => hi y (by simp [hy])))
    simp only [spec_paTime.l0]
    rw [if_pos (lt_mid pre x r), if_pos (zle _), if_pos (lt_mid pre x r), rd_mid, if_pos hx.1, if_pos hx.2, show spec_l1Most.f m (rd l x) = some (if m > rd l x then m else rd l x) by unfold spec_l1Most.f; split <;> rfl, Option.bind_some, wr_mid pre x r hl, app_mid pre x r]
end Go.Proofs.Ytamljjfhkolflaa.Pure
