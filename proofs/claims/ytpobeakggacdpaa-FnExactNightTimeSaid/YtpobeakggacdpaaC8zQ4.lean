import Derived.Test.YtpobeakggacdpaaC8zx0
import Derived.Test.YtpobeakggacdpaaC8zx14
import Derived.Test.YtpobeakggacdpaaC8zx9
import Derived.Test.YtpobeakggacdpaaC8zH0
import Derived.Test.YtpobeakggacdpaaC8zH1
import Derived.Test.YtpobeakggacdpaaC8zQ0
import Derived.Test.YtpobeakggacdpaaC8zQ1
import Derived.Test.YtpobeakggacdpaaC8zQ2
import Derived.Test.YtpobeakggacdpaaC8zQ3
namespace Go.Proofs.Ytpobeakggacdpaa.Pure
open Go.RowKit Go.Proofs.Ytpobeakggacdpaa.C8 Go.Proofs.Ytpobeakggacdpaa.H Go.Proofs.YtpobeakggacdpaaW.PrintWords Go.Proofs.YtpobeakggacdpaaW.PrintLast Go.Proofs.YtpobeakggacdpaaW.PrintMore
set_option linter.unusedVariables false
set_option linter.unusedSimpArgs false
theorem tripP_in {n : Nat} {s : Int} {t : List Int} (h : tripP n s t = true) : ∀ x ∈ t, 0 ≤ x ∧ x < (n : Int) := by
  unfold tripP at h
  simp only [Bool.and_eq_true, List.all_eq_true] at h
  intro x hx
  have := h.1.2 x hx
  simp only [inB, Bool.and_eq_true, decide_eq_true_eq] at this
  omega
theorem are_eq (st : List Bool) (b : Bool) (t : List Int) (c : Bool) (h : ∀ x ∈ t, 0 ≤ x ∧ x < (st.length : Int)) : impl_State_are.f st b t c = some (t.all fun x => rdOf false st x == c) := by
  unfold impl_State_are.f
  rw [if_pos]
  rw [List.all_eq_true]
  intro x hx
  have := h x hx
  simp [this.1, this.2]
theorem indexB_loop (x : Bool) : ∀ (r pre : List Bool), (pre ++ r).length ≤ 1048576 → ∃ v, Ev (fun k => slices_Index_bool_bool.l0 k (pre ++ r) x ((pre ++ r).length : Int) (pre.length : Int)) v ∧ (decide (v ≥ 0) = r.any (fun y => x == y)) := by
  intro r
  induction r with
  | nil =>
    intro pre hl
    refine ⟨-1, Ev.step (f := fun _ => some _) (fun k => ?_) (Ev.now _), rfl⟩
    simp only [slices_Index_bool_bool.l0]
    rw [if_neg (nlt_end pre)]
  | cons y r ih =>
    intro pre hl
    by_cases c : (x == y) = true
    · refine ⟨(pre.length : Int), Ev.step (f := fun _ => some _) (fun k => ?_) (Ev.now _), by simp [c]⟩
      simp only [slices_Index_bool_bool.l0]
      rw [if_pos (lt_mid pre y r), if_pos (zle _), if_pos (lt_mid pre y r), rdOf_mid, if_pos c]
    · obtain ⟨v, hv, hd⟩ := ih (pre ++ [y]) (by simpa using hl)
      refine ⟨v, Ev.step (fun k => ?_) hv, by simp only [List.any_cons, c, Bool.false_or]; exact hd⟩
      simp only [slices_Index_bool_bool.l0]
      rw [if_pos (lt_mid pre y r), if_pos (zle _), if_pos (lt_mid pre y r), rdOf_mid, if_neg c, wr_mid pre y r (by omega), app_mid pre y r]
theorem containsB_ev (l : List Bool) (x : Bool) (hl : l.length ≤ 1048576) : Ev (fun k => slices_Contains_bool_bool.f k l x) (l.any fun y => x == y) := by
  obtain ⟨v, hv, hd⟩ := indexB_loop x l [] (by simpa using hl)
  unfold slices_Contains_bool_bool.f
  exact Ev.bind hv (ev_eq (Ev.now _) hd)
end Go.Proofs.Ytpobeakggacdpaa.Pure
