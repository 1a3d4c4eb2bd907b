import Derived.Test.YtpobeakggacdpaaC4zx0
import Derived.Test.YtpobeakggacdpaaC4zx1
import Derived.Test.YtpobeakggacdpaaC4zx10
import Derived.Test.YtpobeakggacdpaaC4zx11
import Derived.Test.YtpobeakggacdpaaC4zx2
import Derived.Test.YtpobeakggacdpaaC4zx6
import Derived.Test.YtpobeakggacdpaaC4zH0
import Derived.Test.YtpobeakggacdpaaC4zH1
import Derived.Test.YtpobeakggacdpaaC4zQ0
import Derived.Test.YtpobeakggacdpaaC4zQ1
import Derived.Test.YtpobeakggacdpaaC4zQ2
import Derived.Test.YtpobeakggacdpaaC4zQ3
import Derived.Test.YtpobeakggacdpaaC4zQ4
namespace Go.Proofs.Ytpobeakggacdpaa.Pure
open Go.RowKit Go.Proofs.Ytpobeakggacdpaa.C4 Go.Proofs.Ytpobeakggacdpaa.H Go.Proofs.YtpobeakggacdpaaW.PrintWords Go.Proofs.YtpobeakggacdpaaW.PrintLast Go.Proofs.YtpobeakggacdpaaW.PrintMore
set_option linter.unusedVariables false
set_option linter.unusedSimpArgs false
def timeP (l : List Int) : List Int → Int → Int
  | [], m => m
  | x :: r, m => timeP l r (if m > rd l x then m else rd l x)
def sumP (l : List Int) : List (List Int) → Int → Int
  | [], a => a
  | t :: r, a => sumP l r (wrap64 (a + timeP l t 0))
def FnExactPlanTime_val (l : List Int) (s : Int) (ts : List (List Int)) : Int × Bool := if goodP l s && planP l.length s ts then (sumP l ts 0, true) else (0, false)
theorem paTime_loop (l : List Int) (s : Int) : ∀ (r pre : List Int) (m : Int), (pre ++ r).length ≤ 9223372036854775807 → (∀ x ∈ r, 0 ≤ x ∧ x < (l.length : Int)) → Ev (fun k => spec_paTime.l0 k m (pre ++ r) ((pre ++ r).length : Int) (pre.length : Int) l s) (timeP l r m) := by
  intro r
  induction r with
  | nil =>
    intro pre m hl hi
    refine Ev.step (f := fun _ => some _) (fun k => ?_) (Ev.now _)
    simp only [spec_paTime.l0]
    rw [if_neg (nlt_end pre)]
    rfl
  | cons x r ih =>
    intro pre m hl hi
    have hx := hi x (by simp)
    refine Ev.step (fun k => ?_) (ih (pre ++ [x]) (if m > rd l x then m else rd l x) (by simpa using hl) (fun y hy => hi y (by simp [hy])))
    simp only [spec_paTime.l0]
    rw [if_pos (lt_mid pre x r), if_pos (zle _), if_pos (lt_mid pre x r), rd_mid, if_pos hx.1, if_pos hx.2, show spec_l1Most.f m (rd l x) = some (if m > rd l x then m else rd l x) by unfold spec_l1Most.f; split <;> rfl, Option.bind_some, wr_mid pre x r hl, app_mid pre x r]
theorem slowest_loop (l : List Int) : ∀ (r pre : List Int) (m : Int), (pre ++ r).length ≤ 9223372036854775807 → (∀ x ∈ r, 0 ≤ x ∧ x < (l.length : Int)) → Ev (fun k => impl_slowest.l0 k l m (pre ++ r) ((pre ++ r).length : Int) (pre.length : Int)) (timeP l r m) := by
  intro r
  induction r with
  | nil =>
    intro pre m hl hi
    refine Ev.step (f := fun _ => some _) (fun k => ?_) (Ev.now _)
    simp only [impl_slowest.l0]
    rw [if_neg (nlt_end pre)]
    rfl
  | cons x r ih =>
    intro pre m hl hi
    have hx := hi x (by simp)
    refine Ev.step (fun k => ?_) (ih (pre ++ [x]) (if m > rd l x then m else rd l x) (by simpa using hl) (fun y hy => hi y (by simp [hy])))
    simp only [impl_slowest.l0]
    rw [if_pos (lt_mid pre x r), if_pos (zle _), if_pos (lt_mid pre x r), rd_mid, if_pos hx.1, if_pos hx.2, wr_mid pre x r hl, app_mid pre x r, show mx m (rd l x) = (if m > rd l x then m else rd l x) by unfold mx; split <;> split <;> omega]
theorem paSum_loop (l : List Int) (s : Int) : ∀ (r pre : List (List Int)) (a : Int), (pre ++ r).length ≤ 1048576 → (∀ t ∈ r, t.length ≤ 1048576) → (∀ t ∈ r, ∀ x ∈ t, 0 ≤ x ∧ x < (l.length : Int)) → Ev (fun k => spec_paSum.l0 k a (pre ++ r) ((pre ++ r).length : Int) (pre.length : Int) l s) (sumP l r a) := by
  intro r
  induction r with
  | nil =>
    intro pre a hl ht hi
    refine Ev.step (f := fun _ => some _) (fun k => ?_) (Ev.now _)
    simp only [spec_paSum.l0]
    rw [if_neg (nlt_end pre)]
    rfl
  | cons t r ih =>
    intro pre a hl ht hi
    refine Ev.step (f := fun k => (spec_paTime.f k l s t).bind fun t908 => (spec_paSum.l0 k (wrap64 (a + t908)) (pre ++ t :: r) ((pre ++ t :: r).length : Int) (wrap64 ((pre.length : Int) + 1)) l s)) (fun k => ?_) (Ev.bind (paTime_loop l s t [] 0 (by have := ht t (by simp); simp; omega) (hi t (by simp))) ?_)
    · simp only [spec_paSum.l0]
      rw [if_pos (lt_mid pre t r), if_pos (zle _), if_pos (lt_mid pre t r), rd_L2_mid]
    · rw [wr_mid pre t r (by omega), app_mid pre t r]
      exact ih (pre ++ [t]) (wrap64 (a + timeP l t 0)) (by simpa using hl) (fun y hy => ht y (by simp [hy])) (fun y hy => hi y (by simp [hy]))
theorem planTime_loop (l : List Int) (s : Int) : ∀ (r pre : List (List Int)) (a : Int), (pre ++ r).length ≤ 1048576 → (∀ t ∈ r, t.length ≤ 1048576) → (∀ t ∈ r, ∀ x ∈ t, 0 ≤ x ∧ x < (l.length : Int)) → Ev (fun k => impl_PlanTime.l0 k a (pre ++ r) ((pre ++ r).length : Int) (pre.length : Int) l s) (sumP l r a, true) := by
  intro r
  induction r with
  | nil =>
    intro pre a hl ht hi
    refine Ev.step (f := fun _ => some _) (fun k => ?_) (Ev.now _)
    simp only [impl_PlanTime.l0]
    rw [if_neg (nlt_end pre)]
    rfl
  | cons t r ih =>
    intro pre a hl ht hi
    refine Ev.step (f := fun k => (impl_slowest.f k l t).bind fun t908 => (impl_PlanTime.l0 k (wrap64 (a + t908)) (pre ++ t :: r) ((pre ++ t :: r).length : Int) (wrap64 ((pre.length : Int) + 1)) l s)) (fun k => ?_) (Ev.bind (slowest_loop l t [] 0 (by have := ht t (by simp); simp; omega) (hi t (by simp))) ?_)
    · simp only [impl_PlanTime.l0]
      rw [if_pos (lt_mid pre t r), if_pos (zle _), if_pos (lt_mid pre t r), rd_L2_mid]
    · rw [wr_mid pre t r (by omega), app_mid pre t r]
      exact ih (pre ++ [t]) (wrap64 (a + timeP l t 0)) (by simpa using hl) (fun y hy => ht y (by simp [hy])) (fun y hy => hi y (by simp [hy]))
theorem spec_FnExactPlanTime_ev (l : List Int) (s : Int) (ts : List (List Int)) (hl : l.length ≤ 1048576) (hn : n2 ts ≤ 1048576) : Ev (fun k => spec_PlanTime.f k l s ts) (FnExactPlanTime_val l s ts) := by
  obtain ⟨hn1, hn2⟩ := szSum_bound List.length ts (by simpa only [n2] using hn)
  unfold spec_PlanTime.f FnExactPlanTime_val
  refine Ev.bind (paGood_ev l s hl) ?_
  cases hg : goodP l s with
  | false => exact Ev.now _
  | true =>
    simp only [if_true, Bool.true_and]
    refine Ev.bind (paPlan_ev l s ts (goodP_len hg) hn1 hn2) ?_
    cases hp : planP l.length s ts with
    | false => exact Ev.now _
    | true =>
      simp only [if_true]
      exact Ev.bind (g := fun k => spec_paSum.f k l s ts) (paSum_loop l s ts [] 0 (by simpa using hn1) hn2 (planP_in hp)) (Ev.now _)
theorem impl_FnExactPlanTime_ev (l : List Int) (s : Int) (ts : List (List Int)) (hl : l.length ≤ 1048576) (hn : n2 ts ≤ 1048576) : Ev (fun k => impl_PlanTime.f k l s ts) (FnExactPlanTime_val l s ts) := by
  obtain ⟨hn1, hn2⟩ := szSum_bound List.length ts (by simpa only [n2] using hn)
  unfold impl_PlanTime.f FnExactPlanTime_val
  refine Ev.bind (ev_some (isParty_eq l s)) ?_
  cases hg : goodP l s with
  | false =>
    simp only [Bool.false_eq_true, if_false]
    refine Ev.step (fun k => impl_PlanTime.j0.eq_2 ..) ?_
    exact Ev.now _
  | true =>
    simp only [if_true, Bool.true_and]
    refine Ev.bind (isPlan_ev l s ts (goodP_len hg) hn1 hn2) ?_
    refine Ev.step (fun k => impl_PlanTime.j0.eq_2 ..) ?_
    cases hp : planP l.length s ts with
    | false => exact Ev.now _
    | true =>
      simp only [Bool.not_true, Bool.false_eq_true, if_false, if_true]
      exact planTime_loop l s ts [] 0 (by simpa using hn1) hn2 (planP_in hp)
theorem FnExactPlanTime_small (l : List Int) (s : Int) (ts : List (List Int)) (hl : l.length ≤ 1048576) (hn : n2 ts ≤ 1048576) : True := trivial
theorem FnExactPlanTime_pure : ∀ (l0_0 : List Int) (a0_1 : Int) (l1 : List (List Int)), goodL goodI l0_0 → goodI a0_1 → goodL (goodL goodI) l1 → ∃ k, laws_FnExactPlanTime.f k l0_0 a0_1 l1 = some true := by
  intro l0_0 a0_1 l1 g0_0 g0_1 g1
  obtain ⟨u0, hu0, hc⟩ := szParty_cases l0_0 a0_1 1048576 (by omega) (by omega) g0_0.1
  replace hu0 := ev_some hu0
  rcases hc with hc | ⟨b0, d0⟩
  · refine Ev.rounds ?_
    unfold laws_FnExactPlanTime.f
    repeat (first | exact Ev.now _ | (refine Ev.bind (by assumption) ?_; try dsimp only) | (simp only [hc, if_true, if_false, bne_self_eq_false, Bool.false_eq_true]) | refine Ev.step (fun k => laws_FnExactPlanTime.j0.eq_2 ..) ?_ | refine Ev.step (fun k => laws_FnExactPlanTime.j1.eq_2 ..) ?_ | refine Ev.step (fun k => laws_FnExactPlanTime.j2.eq_2 ..) ?_ | refine Ev.step (fun k => laws_FnExactPlanTime.j3.eq_2 ..) ?_ | refine Ev.step (fun k => laws_FnExactPlanTime.j4.eq_2 ..) ?_)
  have nu0 : ¬ u0 < 0 := by omega
  obtain ⟨u1, hu1, hc⟩ := szIntSS_cases l1 u0 b0 (by omega) (good2 g1)
  rcases hc with hc | ⟨b1, d1⟩
  · refine Ev.rounds ?_
    unfold laws_FnExactPlanTime.f
    repeat (first | exact Ev.now _ | (refine Ev.bind (by assumption) ?_; try dsimp only) | (simp only [hc, nu0, if_true, if_false, bne_self_eq_false, Bool.false_eq_true]) | refine Ev.step (fun k => laws_FnExactPlanTime.j0.eq_2 ..) ?_ | refine Ev.step (fun k => laws_FnExactPlanTime.j1.eq_2 ..) ?_ | refine Ev.step (fun k => laws_FnExactPlanTime.j2.eq_2 ..) ?_ | refine Ev.step (fun k => laws_FnExactPlanTime.j3.eq_2 ..) ?_ | refine Ev.step (fun k => laws_FnExactPlanTime.j4.eq_2 ..) ?_)
  have nu1 : ¬ u1 < 0 := by omega
  have z0_0 : List.length l0_0 ≤ 1048576 := by omega
  have z1 : n2 l1 ≤ 1048576 := by omega
  have et0 := toParty_ev l0_0 a0_1 z0_0
  have et1 := toIntSS_ev l1 z1
  have es := spec_FnExactPlanTime_ev l0_0 a0_1 l1 z0_0 z1
  have ei := impl_FnExactPlanTime_ev l0_0 a0_1 l1 z0_0 z1
  have hsm := FnExactPlanTime_small l0_0 a0_1 l1 z0_0 z1
  generalize FnExactPlanTime_val l0_0 a0_1 l1 = rr at *
  obtain ⟨r0, r1⟩ := rr
  have ea0 : Ev (fun k => laws_eqParty.f k l0_0 a0_1 l0_0 a0_1) true := ev_eq (eqParty_ev l0_0 a0_1 l0_0 a0_1 z0_0) (decide_eq_true rfl)
  have ea1 : Ev (fun k => laws_eqIntSS.f k l1 l1) true := ev_eq (eqIntSS_ev l1 l1 z1) (decide_eq_true rfl)
  refine Ev.rounds ?_
  unfold laws_FnExactPlanTime.f
  repeat (first | exact Ev.now _ | (refine Ev.bind (by assumption) ?_; try dsimp only) | (simp only [nu0, nu1, if_true, if_false, bne_self_eq_false, Bool.false_eq_true]) | refine Ev.step (fun k => laws_FnExactPlanTime.j0.eq_2 ..) ?_ | refine Ev.step (fun k => laws_FnExactPlanTime.j1.eq_2 ..) ?_ | refine Ev.step (fun k => laws_FnExactPlanTime.j2.eq_2 ..) ?_ | refine Ev.step (fun k => laws_FnExactPlanTime.j3.eq_2 ..) ?_ | refine Ev.step (fun k => laws_FnExactPlanTime.j4.eq_2 ..) ?_)
end Go.Proofs.Ytpobeakggacdpaa.Pure
