import Derived.Test.YtamljjfhkolflaaC6zx0
import Derived.Test.YtamljjfhkolflaaC6zx6
import Derived.Test.YtamljjfhkolflaaC6zx7
import Derived.Test.YtamljjfhkolflaaC6zH0
import Derived.Test.YtamljjfhkolflaaC6zH1
import Derived.Test.YtamljjfhkolflaaC6zQ0
import Derived.Test.YtamljjfhkolflaaC6zQ1
namespace Go.Proofs.Ytamljjfhkolflaa.Pure
open Go.RowKit Go.Proofs.Ytamljjfhkolflaa.C6 Go.Proofs.Ytamljjfhkolflaa.H Go.Proofs.YtamljjfhkolflaaW.PrintWords Go.Proofs.YtamljjfhkolflaaW.PrintLast Go.Proofs.YtamljjfhkolflaaW.PrintMore
set_option linter.unusedVariables false
set_option linter.unusedSimpArgs false
theorem in_eq (a b c : Int) : impl_in.f a b c = some (inB b c a) := by
  unfold impl_in.f inB
  by_cases h : b ≤ a <;> simp [h]
theorem l1In_eq (a b c : Int) : spec_l1In.f a b c = some (inB b c a) := by
  unfold spec_l1In.f inB
  by_cases h : b ≤ a <;> simp [h]
theorem areIn_eq (l : List Int) (a b c d : Int) : impl_areIn.f l a b c d = some (inB c d (l.length : Int) && l.all (inB a b)) := rfl
theorem l1All_loop (a b : Int) : ∀ (r pre : List Int), (pre ++ r).length ≤ 9223372036854775807 → Ev (fun k => spec_l1All.l0 k a b (pre ++ r) ((pre ++ r).length : Int) (pre.length : Int)) (r.all (inB a b)) := by
  intro r
  induction r with
  | nil =>
    intro pre hl
    refine Ev.step (f := fun _ => some true) (fun k => ?_) (Ev.now _)
    simp only [spec_l1All.l0]
    rw [if_neg (nlt_end pre)]
  | cons x r ih =>
    intro pre hl
    cases hx : inB a b x with
    | true =>
      refine Ev.step (fun k => ?_) (ev_eq (ih (pre ++ [x]) (by simpa using hl)) (by simp [hx]))
      simp only [spec_l1All.l0]
      rw [if_pos (lt_mid pre x r), if_pos (zle _), if_pos (lt_mid pre x r), rd_mid, l1In_eq, hx, Option.bind_some, if_pos rfl, wr_mid pre x r hl, app_mid pre x r]
    | false =>
      refine Ev.step (f := fun _ => some false) (fun k => ?_) (ev_eq (Ev.now _) (by simp [hx]))
      simp only [spec_l1All.l0]
      rw [if_pos (lt_mid pre x r), if_pos (zle _), if_pos (lt_mid pre x r), rd_mid, l1In_eq, hx, Option.bind_some, if_neg (by simp)]
theorem l1All_ev (l : List Int) (a b : Int) (hl : l.length ≤ 9223372036854775807) : Ev (fun k => spec_l1All.f k l a b) (l.all (inB a b)) := l1All_loop a b l [] hl
end Go.Proofs.Ytamljjfhkolflaa.Pure
