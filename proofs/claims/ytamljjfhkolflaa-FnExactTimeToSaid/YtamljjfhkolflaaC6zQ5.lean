import Derived.Test.YtamljjfhkolflaaC6zx0
import Derived.Test.YtamljjfhkolflaaC6zx9
import Derived.Test.YtamljjfhkolflaaC6zH0
import Derived.Test.YtamljjfhkolflaaC6zH1
import Derived.Test.YtamljjfhkolflaaC6zQ0
import Derived.Test.YtamljjfhkolflaaC6zQ1
import Derived.Test.YtamljjfhkolflaaC6zQ2
import Derived.Test.YtamljjfhkolflaaC6zQ3
import Derived.Test.YtamljjfhkolflaaC6zQ4
namespace Go.Proofs.Ytamljjfhkolflaa.Pure
open Go.RowKit Go.Proofs.Ytamljjfhkolflaa.C6 Go.Proofs.Ytamljjfhkolflaa.H Go.Proofs.YtamljjfhkolflaaW.PrintWords Go.Proofs.YtamljjfhkolflaaW.PrintLast Go.Proofs.YtamljjfhkolflaaW.PrintMore
set_option linter.unusedVariables false
set_option linter.unusedSimpArgs false
def mxs (l : List Int) : List Int → Int → Int
  | [], m => m
  | x :: r, m => mxs l r (max m (rd l x))
theorem slowest_loop (l : List Int) : ∀ (r pre : List Int) (m : Int), (pre ++ r).length ≤ 9223372036854775807 → (∀ x ∈ r, 0 ≤ x ∧ x < (l.length : Int)) → Ev (fun k => impl_slowest.l0 k l m (pre ++ r) ((pre ++ r).length : Int) (pre.length : Int)) (mxs l r m) := by
  intro r
  induction r with
  | nil =>
    intro pre m hl hi
    refine Ev.step (f := fun _ => some _) (fun k => ?_) (Ev.now _)
    simp only [impl_slowest.l0]
    rw [if_neg (nlt_end pre)]
    rfl
  | cons x r ih =>
    intro pre m hl hi
    have hx := hi x (by simp)
    refine Ev.step (fun k => ?_) (ih (pre ++ [x]) (max m (rd l x)) (by simpa using hl) (fun y hy => hi y (by simp [hy])))
    simp only [impl_slowest.l0]
    rw [if_pos (lt_mid pre x r), if_pos (zle _), if_pos (lt_mid pre x r), rd_mid, if_pos hx.1, if_pos hx.2, wr_mid pre x r hl, app_mid pre x r, show mx m (rd l x) = max m (rd l x) by unfold mx; split <;> omega]
theorem slowest_ev (l t : List Int) (ht : t.length ≤ 1048576) (hi : ∀ x ∈ t, 0 ≤ x ∧ x < (l.length : Int)) : Ev (fun k => impl_slowest.f k l t) (mxs l t 0) := slowest_loop l t [] 0 (by simp; omega) hi
end Go.Proofs.Ytamljjfhkolflaa.Pure
