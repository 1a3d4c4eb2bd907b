import Derived.Test.YtpobeakggacdpaaC8zx0
import Derived.Test.YtpobeakggacdpaaC8zx1
import Derived.Test.YtpobeakggacdpaaC8zx16
import Derived.Test.YtpobeakggacdpaaC8zx17
import Derived.Test.YtpobeakggacdpaaC8zx2
import Derived.Test.YtpobeakggacdpaaC8zx3
import Derived.Test.YtpobeakggacdpaaC8zx8
import Derived.Test.YtpobeakggacdpaaC8zH0
import Derived.Test.YtpobeakggacdpaaC8zH1
import Derived.Test.YtpobeakggacdpaaC8zQ0
import Derived.Test.YtpobeakggacdpaaC8zQ1
import Derived.Test.YtpobeakggacdpaaC8zQ2
import Derived.Test.YtpobeakggacdpaaC8zQ3
import Derived.Test.YtpobeakggacdpaaC8zQ4
import Derived.Test.YtpobeakggacdpaaC8zQ5
import Derived.Test.YtpobeakggacdpaaC8zQ6
import Derived.Test.YtpobeakggacdpaaC8zQ7
namespace Go.Proofs.Ytpobeakggacdpaa.Pure
open Go.RowKit Go.Proofs.Ytpobeakggacdpaa.C8 Go.Proofs.Ytpobeakggacdpaa.H Go.Proofs.YtpobeakggacdpaaW.PrintWords Go.Proofs.YtpobeakggacdpaaW.PrintLast Go.Proofs.YtpobeakggacdpaaW.PrintMore
set_option linter.unusedVariables false
set_option linter.unusedSimpArgs false
def sumN (l : List Int) : List (List (List Int)) → Int → Int
  | [], a => a
  | R :: r, a => sumN l r (wrap64 (a + rT l R 0))
def FnExactNightTime_val (l : List Int) (s t : Int) (Rs : List (List (List Int))) : Int × Bool := if goodN l s t && planN l.length s t Rs then (sumN l Rs 0, true) else (0, false)
theorem spec_ntLoop (l : List Int) (s t : Int) : ∀ (r pre : List (List (List Int))) (a : Int), (pre ++ r).length ≤ 1048576 → (∀ R ∈ r, R.length ≤ 1048576 ∧ ∀ g ∈ R, g.length ≤ 1048576) → (∀ R ∈ r, ∀ g ∈ R, ∀ x ∈ g, 0 ≤ x ∧ x < (l.length : Int)) → Ev (fun k => spec_NightTime.l0 k a (pre ++ r) ((pre ++ r).length : Int) (pre.length : Int) l s t) (sumN l r a, true) := by
  intro r
  induction r with
  | nil =>
    intro pre a hl hr hi
    refine Ev.step (f := fun _ => some _) (fun k => ?_) (Ev.now _)
    simp only [spec_NightTime.l0]
    rw [if_neg (nlt_end pre)]
    rfl
  | cons R r ih =>
    intro pre a hl hr hi
    have hR := hr R (by simp)
    refine Ev.step (f := fun k => (spec_toTime.f k l s t R).bind fun q => (spec_NightTime.l0 k (wrap64 (a + q)) (pre ++ R :: r) ((pre ++ R :: r).length : Int) (wrap64 ((pre.length : Int) + 1)) l s t)) (fun k => ?_) (Ev.bind (toTime_loop l s t R [] 0 (Int.le_refl _) (by simpa using hR.1) hR.2 (hi R (by simp))) ?_)
    · simp only [spec_NightTime.l0]
      rw [if_pos (lt_mid pre R r), if_pos (zle _), if_pos (lt_mid pre R r), rd_L3_mid]
    · rw [wr_mid pre R r (by omega), app_mid pre R r]
      exact ih (pre ++ [R]) _ (by simpa using hl) (fun y hy => hr y (by simp [hy])) (fun y hy => hi y (by simp [hy]))
theorem impl_ntLoop (l : List Int) (s t : Int) : ∀ (r pre : List (List (List Int))) (a : Int), (pre ++ r).length ≤ 1048576 → (∀ R ∈ r, R.length ≤ 1048576 ∧ ∀ g ∈ R, g.length ≤ 1048576) → (∀ R ∈ r, ∀ g ∈ R, ∀ x ∈ g, 0 ≤ x ∧ x < (l.length : Int)) → Ev (fun k => impl_NightTime.l0 k a (pre ++ r) ((pre ++ r).length : Int) (pre.length : Int) l s t) (sumN l r a, true) := by
  intro r
  induction r with
  | nil =>
    intro pre a hl hr hi
    refine Ev.step (f := fun _ => some _) (fun k => ?_) (Ev.now _)
    simp only [impl_NightTime.l0]
    rw [if_neg (nlt_end pre)]
    rfl
  | cons R r ih =>
    intro pre a hl hr hi
    have hR := hr R (by simp)
    refine Ev.step (f := fun k => (impl_Night_roundTime.f k l s t R).bind fun q => (impl_NightTime.l0 k (wrap64 (a + q)) (pre ++ R :: r) ((pre ++ R :: r).length : Int) (wrap64 ((pre.length : Int) + 1)) l s t)) (fun k => ?_) (Ev.bind (roundTime_loop l s t R [] 0 (by simpa using hR.1) hR.2 (hi R (by simp))) ?_)
    · simp only [impl_NightTime.l0]
      rw [if_pos (lt_mid pre R r), if_pos (zle _), if_pos (lt_mid pre R r), rd_L3_mid]
    · rw [wr_mid pre R r (by omega), app_mid pre R r]
      exact ih (pre ++ [R]) _ (by simpa using hl) (fun y hy => hr y (by simp [hy])) (fun y hy => hi y (by simp [hy]))
theorem spec_FnExactNightTime_ev (l : List Int) (s t : Int) (Rs : List (List (List Int))) (hl : l.length ≤ 1048576) (hn : n3 Rs ≤ 1048576) : Ev (fun k => spec_NightTime.f k l s t Rs) (FnExactNightTime_val l s t Rs) := by
  obtain ⟨hn1, hn2⟩ := n3_in hn
  unfold spec_NightTime.f FnExactNightTime_val
  refine Ev.bind (toGood_ev l s t hl) ?_
  cases hg : goodN l s t with
  | false =>
    simp only [Bool.false_eq_true, if_false]
    exact Ev.step (fun k => spec_NightTime.j0.eq_2 ..) (Ev.now _)
  | true =>
    have h6 := goodN_len hg
    simp only [if_true, Bool.true_and]
    refine Ev.bind (toPlan_ev l s t Rs (by omega) ⟨h6.2.2, h6.2.1⟩ hn) (Ev.step (fun k => spec_NightTime.j0.eq_2 ..) ?_)
    cases hp : planN l.length s t Rs with
    | false => exact Ev.now _
    | true =>
      simp only [Bool.not_true, Bool.false_eq_true, if_false, if_true]
      exact spec_ntLoop l s t Rs [] 0 (by simpa using hn1) hn2 (planN_in hp)
theorem impl_FnExactNightTime_ev (l : List Int) (s t : Int) (Rs : List (List (List Int))) (hl : l.length ≤ 1048576) (hn : n3 Rs ≤ 1048576) : Ev (fun k => impl_NightTime.f k l s t Rs) (FnExactNightTime_val l s t Rs) := by
  obtain ⟨hn1, hn2⟩ := n3_in hn
  unfold impl_NightTime.f FnExactNightTime_val
  refine Ev.bind (ev_some (isNight_eq l s t)) ?_
  cases hg : goodN l s t with
  | false =>
    simp only [Bool.false_eq_true, if_false]
    exact Ev.step (fun k => impl_NightTime.j0.eq_2 ..) (Ev.now _)
  | true =>
    have h6 := goodN_len hg
    simp only [if_true, Bool.true_and]
    refine Ev.bind (isPlanN_ev l s t Rs (by omega) hn) (Ev.step (fun k => impl_NightTime.j0.eq_2 ..) ?_)
    cases hp : planN l.length s t Rs with
    | false => exact Ev.now _
    | true =>
      simp only [Bool.not_true, Bool.false_eq_true, if_false, if_true]
      exact impl_ntLoop l s t Rs [] 0 (by simpa using hn1) hn2 (planN_in hp)
theorem FnExactNightTime_small (l : List Int) (s t : Int) (Rs : List (List (List Int))) (hl : l.length ≤ 1048576) (hn : n3 Rs ≤ 1048576) : True := trivial
theorem FnExactNightTime_pure : ∀ (l0_0 : List Int) (a0_1 : Int) (a0_2 : Int) (l1 : List (List (List Int))), goodL goodI l0_0 → goodI a0_1 → goodI a0_2 → goodL (goodL (goodL goodI)) l1 → ∃ k, laws_FnExactNightTime.f k l0_0 a0_1 a0_2 l1 = some true := by
  intro l0_0 a0_1 a0_2 l1 g0_0 g0_1 g0_2 g1
  obtain ⟨u0, hu0, hc⟩ := szNight_cases l0_0 a0_1 a0_2 1048576 (by omega) (by omega) g0_0.1
  replace hu0 := ev_some hu0
  rcases hc with hc | ⟨b0, d0⟩
  · refine Ev.rounds ?_
    unfold laws_FnExactNightTime.f
    repeat (first | exact Ev.now _ | (refine Ev.bind (by assumption) ?_; try dsimp only) | (simp only [hc, if_true, if_false, bne_self_eq_false, Bool.false_eq_true]) | refine Ev.step (fun k => laws_FnExactNightTime.j0.eq_2 ..) ?_ | refine Ev.step (fun k => laws_FnExactNightTime.j1.eq_2 ..) ?_ | refine Ev.step (fun k => laws_FnExactNightTime.j2.eq_2 ..) ?_ | refine Ev.step (fun k => laws_FnExactNightTime.j3.eq_2 ..) ?_ | refine Ev.step (fun k => laws_FnExactNightTime.j4.eq_2 ..) ?_)
  have nu0 : ¬ u0 < 0 := by omega
  obtain ⟨u1, hu1, hc⟩ := szIntSSS_cases l1 u0 b0 (by omega) (good3 g1)
  rcases hc with hc | ⟨b1, d1⟩
  · refine Ev.rounds ?_
    unfold laws_FnExactNightTime.f
    repeat (first | exact Ev.now _ | (refine Ev.bind (by assumption) ?_; try dsimp only) | (simp only [hc, nu0, if_true, if_false, bne_self_eq_false, Bool.false_eq_true]) | refine Ev.step (fun k => laws_FnExactNightTime.j0.eq_2 ..) ?_ | refine Ev.step (fun k => laws_FnExactNightTime.j1.eq_2 ..) ?_ | refine Ev.step (fun k => laws_FnExactNightTime.j2.eq_2 ..) ?_ | refine Ev.step (fun k => laws_FnExactNightTime.j3.eq_2 ..) ?_ | refine Ev.step (fun k => laws_FnExactNightTime.j4.eq_2 ..) ?_)
  have nu1 : ¬ u1 < 0 := by omega
  have z0_0 : List.length l0_0 ≤ 1048576 := by omega
  have z1 : n3 l1 ≤ 1048576 := by omega
  have et0 := toNight_ev l0_0 a0_1 a0_2 z0_0
  have et1 := toIntSSS_ev l1 z1
  have es := spec_FnExactNightTime_ev l0_0 a0_1 a0_2 l1 z0_0 z1
  have ei := impl_FnExactNightTime_ev l0_0 a0_1 a0_2 l1 z0_0 z1
  have hsm := FnExactNightTime_small l0_0 a0_1 a0_2 l1 z0_0 z1
  generalize FnExactNightTime_val l0_0 a0_1 a0_2 l1 = rr at *
  obtain ⟨r0, r1⟩ := rr
  have ea0 : Ev (fun k => laws_eqNight.f k l0_0 a0_1 a0_2 l0_0 a0_1 a0_2) true := ev_eq (eqNight_ev l0_0 a0_1 a0_2 l0_0 a0_1 a0_2 z0_0) (decide_eq_true rfl)
  have ea1 : Ev (fun k => laws_eqIntSSS.f k l1 l1) true := ev_eq (eqIntSSS_ev l1 l1 z1) (decide_eq_true rfl)
  refine Ev.rounds ?_
  unfold laws_FnExactNightTime.f
  repeat (first | exact Ev.now _ | (refine Ev.bind (by assumption) ?_; try dsimp only) | (simp only [nu0, nu1, if_true, if_false, bne_self_eq_false, Bool.false_eq_true]) | refine Ev.step (fun k => laws_FnExactNightTime.j0.eq_2 ..) ?_ | refine Ev.step (fun k => laws_FnExactNightTime.j1.eq_2 ..) ?_ | refine Ev.step (fun k => laws_FnExactNightTime.j2.eq_2 ..) ?_ | refine Ev.step (fun k => laws_FnExactNightTime.j3.eq_2 ..) ?_ | refine Ev.step (fun k => laws_FnExactNightTime.j4.eq_2 ..) ?_)
end Go.Proofs.Ytpobeakggacdpaa.Pure
