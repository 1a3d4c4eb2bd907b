import Derived.Test.YtpobeakggacdpaaC9zx0
import Derived.Test.YtpobeakggacdpaaC9zx1
import Derived.Test.YtpobeakggacdpaaC9zx3
import Derived.Test.YtpobeakggacdpaaC9zx4
import Derived.Test.YtpobeakggacdpaaC9zH0
import Derived.Test.YtpobeakggacdpaaC9zH1
import Derived.Test.YtpobeakggacdpaaC9zQ0
import Derived.Test.YtpobeakggacdpaaC9zQ1
import Derived.Test.YtpobeakggacdpaaC9zQ2
import Derived.Test.YtpobeakggacdpaaC9zQ3
namespace Go.Proofs.Ytpobeakggacdpaa.Pure
open Go.RowKit Go.Proofs.Ytpobeakggacdpaa.C9 Go.Proofs.Ytpobeakggacdpaa.H Go.Proofs.YtpobeakggacdpaaW.PrintWords Go.Proofs.YtpobeakggacdpaaW.PrintLast Go.Proofs.YtpobeakggacdpaaW.PrintMore
set_option linter.unusedVariables false
set_option linter.unusedSimpArgs false
def goodP (l : List Int) (s : Int) : Bool := inB 1 8 (l.length : Int) && l.all (inB 1 1000) && inB 1 3 s
theorem goodP_len {l : List Int} {s : Int} (h : goodP l s = true) : l.length ≤ 8 := by
  unfold goodP at h
  simp only [Bool.and_eq_true] at h
  have := h.1.1
  simp only [inB, Bool.and_eq_true, decide_eq_true_eq] at this
  omega
theorem isParty_eq (l : List Int) (s : Int) : impl_IsParty.f l s = some (goodP l s) := by
  unfold impl_IsParty.f goodP
  rw [areIn_eq, in_eq]
  cases inB 1 8 (l.length : Int) <;> cases l.all (inB 1 1000) <;> cases inB 1 3 s <;> rfl
theorem paGood_ev (l : List Int) (s : Int) (hl : l.length ≤ 1048576) : Ev (fun k => spec_paGood.f k l s) (goodP l s) := by
  obtain ⟨K, e⟩ := l1All_ev l 1 1000 (by omega)
  refine ⟨K, fun k hk => ?_⟩
  unfold spec_paGood.f goodP
  simp only [l1In_eq, e k hk, Option.bind_some]
  cases inB 1 8 (l.length : Int) <;> cases l.all (inB 1 1000) <;> cases inB 1 3 s <;> rfl
theorem indexB_loop (x : Bool) : ∀ (r pre : List Bool), (pre ++ r).length ≤ 1048576 → ∃ v, Ev (fun k => slices_Index_bool_bool.l0 k (pre ++ r) x ((pre ++ r).length : Int) (pre.length : Int)) v ∧ (decide (v ≥ 0) = r.any (fun y => x == y)) := by
  intro r
  induction r with
  | nil =>
    intro pre hl
    refine ⟨-1, Ev.step (f := fun _ => some _) (fun k => ?_) (Ev.now _), rfl⟩
    simp only [slices_Index_bool_bool.l0]
    rw [if_neg (nlt_end pre)]
  | cons y r ih =>
    intro pre hl
    by_cases c : (x == y) = true
    · refine ⟨(pre.length : Int), Ev.step (f := fun _ => some _) (fun k => ?_) (Ev.now _), by simp [c]⟩
      simp only [slices_Index_bool_bool.l0]
      rw [if_pos (lt_mid pre y r), if_pos (zle _), if_pos (lt_mid pre y r), rdOf_mid, if_pos c]
    · obtain ⟨v, hv, hd⟩ := ih (pre ++ [y]) (by simpa using hl)
      refine ⟨v, Ev.step (fun k => ?_) hv, by simp only [List.any_cons, c, Bool.false_or]; exact hd⟩
      simp only [slices_Index_bool_bool.l0]
      rw [if_pos (lt_mid pre y r), if_pos (zle _), if_pos (lt_mid pre y r), rdOf_mid, if_neg c, wr_mid pre y r (by omega), app_mid pre y r]
theorem containsB_ev (l : List Bool) (x : Bool) (hl : l.length ≤ 1048576) : Ev (fun k => slices_Contains_bool_bool.f k l x) (l.any fun y => x == y) := by
  obtain ⟨v, hv, hd⟩ := indexB_loop x l [] (by simpa using hl)
  unfold slices_Contains_bool_bool.f
  exact Ev.bind hv (ev_eq (Ev.now _) hd)
end Go.Proofs.Ytpobeakggacdpaa.Pure
