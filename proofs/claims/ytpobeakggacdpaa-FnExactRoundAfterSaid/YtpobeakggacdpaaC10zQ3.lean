import Derived.Test.YtpobeakggacdpaaC10zx0
import Derived.Test.YtpobeakggacdpaaC10zx3
import Derived.Test.YtpobeakggacdpaaC10zx7
import Derived.Test.YtpobeakggacdpaaC10zH0
import Derived.Test.YtpobeakggacdpaaC10zH1
import Derived.Test.YtpobeakggacdpaaC10zQ0
import Derived.Test.YtpobeakggacdpaaC10zQ1
import Derived.Test.YtpobeakggacdpaaC10zQ2
namespace Go.Proofs.Ytpobeakggacdpaa.Pure
open Go.RowKit Go.Proofs.Ytpobeakggacdpaa.C10 Go.Proofs.Ytpobeakggacdpaa.H Go.Proofs.YtpobeakggacdpaaW.PrintWords Go.Proofs.YtpobeakggacdpaaW.PrintLast Go.Proofs.YtpobeakggacdpaaW.PrintMore
set_option linter.unusedVariables false
set_option linter.unusedSimpArgs false
def risF (p : Int) : List Int → Bool
  | [] => true
  | y :: r => decide (p < y) && risF y r
def risP : List Int → Bool
  | [] => true
  | x :: r => risF x r
def tripP (n : Nat) (s : Int) (t : List Int) : Bool := inB 1 s (t.length : Int) && t.all (inB 0 ((n : Int) - 1)) && risP t
theorem rd_mid1 (pre : List Int) (p y : Int) (r : List Int) : rd (pre ++ p :: y :: r) ((pre.length : Int) + 1) = y := by
  have h : ((pre.length : Int) + 1).toNat = pre.length + 1 := by omega
  simp [rd, h]
theorem lt_mid1 (pre : List Int) (p y : Int) (r : List Int) : (pre.length : Int) + 1 < ((pre ++ p :: y :: r).length : Int) := by simp; omega
theorem nlt_end1 (pre : List Int) (p : Int) : ¬ (pre.length : Int) + 1 < ((pre ++ p :: ([] : List Int)).length : Int) := by simp
theorem wr_mid1 (pre : List Int) (p y : Int) (r : List Int) (h : (pre ++ p :: y :: r).length ≤ 9223372036854775807) : wrap64 ((pre.length : Int) + 1 + 1) = ((pre ++ [p]).length : Int) + 1 := by
  simp only [List.length_append, List.length_cons] at h
  rw [wr_id (by omega) (by omega)]
  simp
theorem wr_pred (pre : List Int) (h : pre.length ≤ 9223372036854775806) : wrap64 ((pre.length : Int) + 1 - 1) = (pre.length : Int) := by
  rw [wr_id (by omega) (by omega)]
  omega
theorem wr_pred' (n : Nat) (h : n ≤ 9223372036854775806) : wrap64 ((n : Int) + 1 - 1) = (n : Int) := by
  rw [wr_id (by omega) (by omega)]
  omega
theorem rising_cat (pre : List Int) (p : Int) (r : List Int) : pre ++ p :: r = (pre ++ [p]) ++ r := by simp
theorem rises_loop : ∀ (r pre : List Int) (p : Int), (pre ++ p :: r).length ≤ 9223372036854775807 → Ev (fun k => impl_rises.l0 k (pre ++ p :: r) ((pre.length : Int) + 1)) (risF p r) := by
  intro r
  induction r with
  | nil =>
    intro pre p hl
    refine Ev.step (f := fun _ => some true) (fun k => ?_) (Ev.now _)
    simp only [impl_rises.l0]
    rw [if_neg (nlt_end1 pre p)]
  | cons y r ih =>
    intro pre p hl
    have hl' := hl
    simp only [List.length_append, List.length_cons] at hl'
    by_cases c : p < y
    · refine Ev.step (fun k => ?_) (ev_eq (ih (pre ++ [p]) y (by simpa using hl)) (by simp [risF, c]))
      simp only [impl_rises.l0]
      rw [if_pos (lt_mid1 pre p y r), if_pos (by omega), wr_pred pre (by omega), if_pos (zle _), if_pos (lt_mid pre p (y :: r)), rd_mid1, rd_mid, if_neg (by omega), wr_mid1 pre p y r hl, rising_cat pre p (y :: r)]
    · refine Ev.step (f := fun _ => some false) (fun k => ?_) (ev_eq (Ev.now _) (by simp [risF, c]))
      simp only [impl_rises.l0]
      rw [if_pos (lt_mid1 pre p y r), if_pos (by omega), wr_pred pre (by omega), if_pos (zle _), if_pos (lt_mid pre p (y :: r)), rd_mid1, rd_mid, if_pos (by omega)]
theorem rises_ev (l : List Int) (hl : l.length ≤ 9223372036854775807) : Ev (fun k => impl_rises.f k l) (risP l) := by
  cases l with
  | nil =>
    refine Ev.step (f := fun _ => some true) (fun k => ?_) (Ev.now _)
    simp [impl_rises.f, impl_rises.l0]
  | cons x r => exact rises_loop r [] x hl
theorem l1Rising_loop (lo hi : Int) : ∀ (r pre : List Int) (p : Int), (pre ++ p :: r).length ≤ 9223372036854775807 → Ev (fun k => spec_l1Rising.l0 k (pre ++ p :: r) lo hi (pre ++ p :: r) ((pre ++ p :: r).length : Int) ((pre.length : Int) + 1)) (r.all (inB lo hi) && risF p r) := by
  intro r
  induction r with
  | nil =>
    intro pre p hl
    refine Ev.step (f := fun _ => some true) (fun k => ?_) (Ev.now _)
    simp only [spec_l1Rising.l0]
    rw [if_neg (nlt_end1 pre p)]
  | cons y r ih =>
    intro pre p hl
    have hl' := hl
    simp only [List.length_append, List.length_cons] at hl'
    cases hy : inB lo hi y with
    | false =>
      refine Ev.step (f := fun _ => some false) (fun k => ?_) (ev_eq (Ev.now _) (by simp [hy]))
      simp only [spec_l1Rising.l0]
      rw [if_pos (lt_mid1 pre p y r), if_pos (by omega), if_pos (lt_mid1 pre p y r), rd_mid1, l1In_eq, hy, Option.bind_some, if_neg (by simp)]
    | true =>
      by_cases c : p < y
      · refine Ev.step (fun k => ?_) (ev_eq (ih (pre ++ [p]) y (by simpa using hl)) (by simp [risF, c, hy]))
        simp only [spec_l1Rising.l0]
        rw [if_pos (lt_mid1 pre p y r), if_pos (by omega), if_pos (lt_mid1 pre p y r), rd_mid1, l1In_eq, hy, Option.bind_some, if_pos rfl, if_pos (by omega), wr_pred pre (by omega), if_pos (zle _), if_pos (lt_mid pre p (y :: r)), rd_mid, if_neg (by omega), wr_mid1 pre p y r hl, rising_cat pre p (y :: r)]
      · refine Ev.step (f := fun _ => some false) (fun k => ?_) (ev_eq (Ev.now _) (by simp [risF, c]))
        simp only [spec_l1Rising.l0]
        rw [if_pos (lt_mid1 pre p y r), if_pos (by omega), if_pos (lt_mid1 pre p y r), rd_mid1, l1In_eq, hy, Option.bind_some, if_pos rfl, if_pos (by omega), wr_pred pre (by omega), if_pos (zle _), if_pos (lt_mid pre p (y :: r)), rd_mid, if_pos (by omega)]
theorem l1Rising_ev (l : List Int) (lo hi : Int) (hl : l.length ≤ 9223372036854775807) : Ev (fun k => spec_l1Rising.f k l lo hi) (l.all (inB lo hi) && risP l) := by
  cases l with
  | nil =>
    refine Ev.step (f := fun _ => some true) (fun k => ?_) (Ev.now _)
    simp [spec_l1Rising.f, spec_l1Rising.l0]
  | cons x r =>
    cases hx : inB lo hi x with
    | false =>
      refine Ev.step (f := fun _ => some false) (fun k => ?_) (ev_eq (Ev.now _) (by simp [hx]))
      simp only [spec_l1Rising.f, spec_l1Rising.l0]
      rw [if_pos (show (0 : Int) < ((x :: r).length : Int) by simp only [List.length_cons]; omega), if_pos (Int.le_refl _), if_pos (show (0 : Int) < ((x :: r).length : Int) by simp only [List.length_cons]; omega), show rd (x :: r) 0 = x from rfl, l1In_eq, hx, Option.bind_some, if_neg (by simp)]
    | true =>
      refine Ev.step (fun k => ?_) (ev_eq (l1Rising_loop lo hi r [] x hl) (by simp [hx, risP]))
      simp only [spec_l1Rising.f, spec_l1Rising.l0]
      rw [if_pos (show (0 : Int) < ((x :: r).length : Int) by simp only [List.length_cons]; omega), if_pos (Int.le_refl _), if_pos (show (0 : Int) < ((x :: r).length : Int) by simp only [List.length_cons]; omega), show rd (x :: r) 0 = x from rfl, l1In_eq, hx, Option.bind_some, if_pos rfl, if_neg (by omega), show wrap64 (0 + 1) = ((([] : List Int).length : Int) + 1) from wr_id (by omega) (by omega)]
      rfl
end Go.Proofs.Ytpobeakggacdpaa.Pure
