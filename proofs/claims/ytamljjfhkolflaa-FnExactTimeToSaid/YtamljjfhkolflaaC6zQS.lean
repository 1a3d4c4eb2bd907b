import Derived.Test.YtamljjfhkolflaaC6zx0
import Derived.Test.YtamljjfhkolflaaC6zx6
import Derived.Test.YtamljjfhkolflaaC6zx7
import Derived.Test.YtamljjfhkolflaaC6zH0
import Derived.Test.YtamljjfhkolflaaC6zH1
import Derived.Test.YtamljjfhkolflaaC6zQ0
import Derived.Test.YtamljjfhkolflaaC6zQ1
import Derived.Test.YtamljjfhkolflaaC6zQ2
import Derived.Test.YtamljjfhkolflaaC6zQ3
import Derived.Test.YtamljjfhkolflaaC6zQ4
import Derived.Test.YtamljjfhkolflaaC6zQ5
namespace Go.Proofs.Ytamljjfhkolflaa.Pure
open Go.RowKit Go.Proofs.Ytamljjfhkolflaa.C6 Go.Proofs.Ytamljjfhkolflaa.H Go.Proofs.YtamljjfhkolflaaW.PrintWords Go.Proofs.YtamljjfhkolflaaW.PrintLast Go.Proofs.YtamljjfhkolflaaW.PrintMore
set_option linter.unusedVariables false
set_option linter.unusedSimpArgs false
def stateP (n : Nat) (st : List Bool) (b : Bool) : Bool := decide (st.length = n) && st.any fun y => b == y
theorem paState_loop (b : Bool) (a : List Bool) : ∀ (r pre : List Bool), (pre ++ r).length ≤ 1048576 → Ev (fun k => spec_paState.l0 k (pre ++ r) ((pre ++ r).length : Int) (pre.length : Int) a b) (r.any fun y => b == y) := by
  intro r
  induction r with
  | nil =>
    intro pre hl
    refine Ev.step (f := fun _ => some false) (fun k => ?_) (Ev.now _)
    simp only [spec_paState.l0]
    rw [if_neg (nlt_end pre)]
  | cons x r ih =>
    intro pre hl
    by_cases c : x = b
    · refine Ev.step (f := fun _ => some true) (fun k => ?_) (ev_eq (Ev.now _) (by simp [c]))
      simp only [spec_paState.l0]
      rw [if_pos (lt_mid pre x r), if_pos (zle _), if_pos (lt_mid pre x r), rdOf_mid, if_pos (by simp [c])]
    · refine Ev.step (fun k => ?_) (ev_eq (ih (pre ++ [x]) (by simpa using hl)) (by simp [show ¬ b = x from fun e => c e.symm]))
      simp only [spec_paState.l0]
      rw [if_pos (lt_mid pre x r), if_pos (zle _), if_pos (lt_mid pre x r), rdOf_mid, if_neg (by simpa using c), wr_mid pre x r (by omega), app_mid pre x r]
theorem paState_ev (l : List Int) (s : Int) (st : List Bool) (b : Bool) (hs : st.length ≤ 1048576) : Ev (fun k => spec_paState.f k l s st b) (stateP l.length st b) := by
  unfold spec_paState.f stateP
  by_cases c : st.length = l.length
  · simp only [if_pos (show (st.length : Int) = (l.length : Int) by omega), decide_eq_true c, Bool.true_and]
    exact paState_loop b st st [] (by simpa using hs)
  · simp only [if_neg (show ¬ (st.length : Int) = (l.length : Int) by omega), decide_eq_false c, Bool.false_and]
    exact Ev.now _
theorem isStateOf_ev (n : Nat) (st : List Bool) (b : Bool) (hs : st.length ≤ 1048576) : Ev (fun k => impl_isStateOf.f k (n : Int) st b) (stateP n st b) := by
  unfold impl_isStateOf.f stateP
  by_cases c : st.length = n
  · simp only [if_pos (show (st.length : Int) = (n : Int) by omega), decide_eq_true c, Bool.true_and]
    exact Ev.bind (containsB_ev st b hs) (Ev.now _)
  · simp only [if_neg (show ¬ (st.length : Int) = (n : Int) by omega), decide_eq_false c, Bool.false_and]
    exact Ev.now _
theorem stateP_len {n : Nat} {st : List Bool} {b : Bool} (h : stateP n st b = true) : st.length = n := by
  unfold stateP at h
  simp only [Bool.and_eq_true, decide_eq_true_eq] at h
  exact h.1
end Go.Proofs.Ytamljjfhkolflaa.Pure
