import Derived.Test.YtikjdmiohpdnaaaC5zx0
import Derived.Test.YtikjdmiohpdnaaaC5zx4
import Derived.Test.YtikjdmiohpdnaaaC5zx6
import Derived.Test.YtikjdmiohpdnaaaC5zx7
import Derived.Test.YtikjdmiohpdnaaaC5zH0
import Derived.Test.YtikjdmiohpdnaaaC5zH1
import Derived.Test.YtikjdmiohpdnaaaC5zQ0
import Derived.Test.YtikjdmiohpdnaaaC5zQ1
import Derived.Test.YtikjdmiohpdnaaaC5zQ2
import Derived.Test.YtikjdmiohpdnaaaC5zQ3
import Derived.Test.YtikjdmiohpdnaaaC5zQ4
import Derived.Test.YtikjdmiohpdnaaaC5zQ5
import Derived.Test.YtikjdmiohpdnaaaC5zQ8
namespace Go.Proofs.Ytikjdmiohpdnaaa.Pure
open Go.RowKit Go.Proofs.Ytikjdmiohpdnaaa.C5 Go.Proofs.Ytikjdmiohpdnaaa.H Go.Proofs.YtikjdmiohpdnaaaW.PrintWords Go.Proofs.YtikjdmiohpdnaaaW.PrintLast Go.Proofs.YtikjdmiohpdnaaaW.PrintMore
set_option linter.unusedVariables false
set_option linter.unusedSimpArgs false
def rideC (l : List Int) (rw : List Bool) (m : Int) (st : List Bool) (b : Bool) (g : List Int) : Bool := grpC l.length g && ((g.all fun x => rdOf false st x == b) && (decide (loadP l g 0 ≤ m) && g.any fun x => rdOf false rw x))
theorem areS_eq (st : List Bool) (b : Bool) (t : List Int) (c : Bool) (h : ∀ x ∈ t, 0 ≤ x ∧ x < (st.length : Int)) : impl_State_are.f st b t c = some (t.all fun x => rdOf false st x == c) := by
  unfold impl_State_are.f
  rw [if_pos]
  rw [List.all_eq_true]
  intro x hx
  have := h x hx
  simp [this.1, this.2]
theorem carries_ev (l : List Int) (rw : List Bool) (m : Int) (g : List Int) (hg : g.length ≤ 1048576) (hi : ∀ x ∈ g, 0 ≤ x ∧ x < (l.length : Int)) (hr : rw.length = l.length) : Ev (fun k => impl_Crew_carries.f k l rw m g) (decide (loadP l g 0 ≤ m) && g.any fun x => rdOf false rw x) := by
  unfold impl_Crew_carries.f
  refine Ev.bind (load_ev l rw m g hg hi) ?_
  by_cases c : loadP l g 0 ≤ m
  · simp only [if_pos c, decide_eq_true c, Bool.true_and]
    refine ev_some ?_
    rw [if_pos]
    rw [List.all_eq_true]
    intro x hx
    have := hi x hx
    simp [this.1, hr, this.2]
  · simp only [if_neg c, decide_eq_false c, Bool.false_and]
    exact Ev.now _
theorem isRide_ev (l : List Int) (rw : List Bool) (m : Int) (st : List Bool) (b : Bool) (g : List Int) (hl : l.length ≤ 1048576) (hg : g.length ≤ 1048576) (hr : rw.length = l.length) (hs : st.length = l.length) : Ev (fun k => impl_Crew_isRide.f k l rw m st b g) (rideC l rw m st b g) := by
  unfold impl_Crew_isRide.f rideC
  refine Ev.bind (crewGroup_ev l rw m g hl hg) ?_
  cases hq : grpC l.length g with
  | false => exact Ev.now _
  | true =>
    simp only [if_true, Bool.true_and]
    refine Ev.bind (ev_some (areS_eq st b g b (by rw [hs]; exact grpC_in hq))) ?_
    cases (g.all fun x => rdOf false st x == b) with
    | false => exact Ev.now _
    | true =>
      simp only [if_true, Bool.true_and]
      exact Ev.bind (carries_ev l rw m g hg (grpC_in hq) hr) (Ev.now _)
theorem loCan_loop (l : List Int) (rw : List Bool) (m : Int) (st : List Bool) (b : Bool) : ∀ (r pre : List Int) (acc : Bool), (pre ++ r).length ≤ 1048576 → (∀ x ∈ r, 0 ≤ x ∧ x < (st.length : Int) ∧ x < (rw.length : Int)) → Ev (fun k => spec_loCan.l0 k acc (pre ++ r) ((pre ++ r).length : Int) (pre.length : Int) l rw m st b) ((r.all fun x => rdOf false st x == b) && (acc || r.any fun x => rdOf false rw x)) := by
  intro r
  induction r with
  | nil =>
    intro pre acc hl hi
    refine Ev.step (f := fun _ => some acc) (fun k => ?_) (ev_eq (Ev.now _) (by simp))
    simp only [spec_loCan.l0]
    rw [if_neg (nlt_end pre)]
  | cons x r ih =>
    intro pre acc hl hi
    have hx := hi x (by simp)
    by_cases c : rdOf false st x = b
    · cases acc with
      | true =>
        refine Ev.step (fun k => ?_) (ev_eq (ih (pre ++ [x]) true (by simpa using hl) (fun y hy => hi y (by simp [hy]))) (by simp [c]))
        simp only [spec_loCan.l0]
        rw [if_pos (lt_mid pre x r), if_pos (zle _), if_pos (lt_mid pre x r), rd_mid, if_pos hx.1, if_pos hx.2.1, if_neg (by simp [c]), wr_mid pre x r (by omega), app_mid pre x r]
        simp only [if_true]
      | false =>
        refine Ev.step (fun k => ?_) (ev_eq (ih (pre ++ [x]) (rdOf false rw x) (by simpa using hl) (fun y hy => hi y (by simp [hy]))) (by simp [c]))
        simp only [spec_loCan.l0]
        rw [if_pos (lt_mid pre x r), if_pos (zle _), if_pos (lt_mid pre x r), rd_mid, if_pos hx.1, if_pos hx.2.1, if_neg (by simp [c]), wr_mid pre x r (by omega), app_mid pre x r]
        simp only [Bool.false_eq_true, if_false, if_pos hx.2.2]
    · refine Ev.step (f := fun _ => some false) (fun k => ?_) (ev_eq (Ev.now _) (by simp [c]))
      simp only [spec_loCan.l0]
      rw [if_pos (lt_mid pre x r), if_pos (zle _), if_pos (lt_mid pre x r), rd_mid, if_pos hx.1, if_pos hx.2.1, if_pos (by simpa using c)]
theorem loCan_ev (l : List Int) (rw : List Bool) (m : Int) (st : List Bool) (b : Bool) (g : List Int) (hl : l.length ≤ 1048576) (hg : g.length ≤ 1048576) (hr : rw.length = l.length) (hs : st.length = l.length) : Ev (fun k => spec_loCan.f k l rw m st b g) (rideC l rw m st b g) := by
  unfold spec_loCan.f
  have bad : Ev (fun k => spec_loCan.j0 k g true l rw m st b) false := Ev.step (f := fun _ => some false) (fun k => by simp only [spec_loCan.j0]; rfl) (Ev.now _)
  by_cases h0 : g = []
  · subst h0
    simp only [List.length_nil, if_pos (show ((0 : Nat) : Int) = 0 from rfl)]
    exact ev_eq bad (by simp [rideC])
  · have hpos : ¬ (g.length : Int) = 0 := by
      intro e
      exact h0 (List.eq_nil_of_length_eq_zero (by omega))
    simp only [if_neg hpos, wr_id (show -9223372036854775808 ≤ (l.length : Int) - 1 by omega) (by omega)]
    refine Ev.bind (l1Rising_ev g 0 ((l.length : Int) - 1) (by omega)) ?_
    show Ev (fun k => if grpC l.length g = true then _ else _) _
    cases hq : grpC l.length g with
    | false =>
      simp only [Bool.false_eq_true, if_false]
      exact ev_eq bad (by simp [rideC, hq])
    | true =>
      have hin := grpC_in hq
      simp only [if_true]
      refine Ev.bind (loLoad_ev l rw m g hg hin) ?_
      by_cases c : loadP l g 0 ≤ m
      · simp only [decide_eq_false (show ¬ loadP l g 0 > m by omega)]
        refine Ev.step (f := fun k => spec_loCan.l0 k false g (g.length : Int) 0 l rw m st b) (fun k => by simp only [spec_loCan.j0]; rfl) ?_
        refine ev_eq (loCan_loop l rw m st b g [] false (by simpa using hg) (fun x hx => ⟨(hin x hx).1, by rw [hs]; exact (hin x hx).2, by rw [hr]; exact (hin x hx).2⟩)) ?_
        simp [rideC, hq, c]
      · simp only [decide_eq_true (show loadP l g 0 > m by omega)]
        exact ev_eq bad (by simp [rideC, hq, c])
theorem rideC_in {l : List Int} {rw : List Bool} {m : Int} {st : List Bool} {b : Bool} {g : List Int} (h : rideC l rw m st b g = true) : (∀ x ∈ g, 0 ≤ x ∧ x < (l.length : Int)) ∧ ∀ x ∈ g, rdOf false st x = b := by
  unfold rideC at h
  simp only [Bool.and_eq_true] at h
  refine ⟨grpC_in h.1, ?_⟩
  have := List.all_eq_true.1 h.2.1
  intro x hx
  simpa using this x hx
end Go.Proofs.Ytikjdmiohpdnaaa.Pure
