import Derived.Test.YtpobeakggacdpaaC7zx0
import Derived.Test.YtpobeakggacdpaaC7zx1
import Derived.Test.YtpobeakggacdpaaC7zx15
import Derived.Test.YtpobeakggacdpaaC7zx16
import Derived.Test.YtpobeakggacdpaaC7zx7
import Derived.Test.YtpobeakggacdpaaC7zH0
import Derived.Test.YtpobeakggacdpaaC7zH1
import Derived.Test.YtpobeakggacdpaaC7zQ0
import Derived.Test.YtpobeakggacdpaaC7zQ1
import Derived.Test.YtpobeakggacdpaaC7zQ2
import Derived.Test.YtpobeakggacdpaaC7zQ3
import Derived.Test.YtpobeakggacdpaaC7zQ4
import Derived.Test.YtpobeakggacdpaaC7zQ5
import Derived.Test.YtpobeakggacdpaaC7zQ6
import Derived.Test.YtpobeakggacdpaaC7zQ7
namespace Go.Proofs.Ytpobeakggacdpaa.Pure
open Go.RowKit Go.Proofs.Ytpobeakggacdpaa.C7 Go.Proofs.Ytpobeakggacdpaa.H Go.Proofs.YtpobeakggacdpaaW.PrintWords Go.Proofs.YtpobeakggacdpaaW.PrintLast Go.Proofs.YtpobeakggacdpaaW.PrintMore
set_option linter.unusedVariables false
set_option linter.unusedSimpArgs false
def FnExactIsNightPlan_val (l : List Int) (s t : Int) (Rs : List (List (List Int))) : Bool × Bool := if goodN l s t then (if 30 < Rs.length then (false, false) else (planN l.length s t Rs, true)) else (false, false)
theorem spec_FnExactIsNightPlan_ev (l : List Int) (s t : Int) (Rs : List (List (List Int))) (hl : l.length ≤ 1048576) (hn : n3 Rs ≤ 1048576) : Ev (fun k => spec_IsNightPlan.f k l s t Rs) (FnExactIsNightPlan_val l s t Rs) := by
  unfold spec_IsNightPlan.f FnExactIsNightPlan_val
  refine Ev.bind (toGood_ev l s t hl) ?_
  cases hg : goodN l s t with
  | false => exact Ev.now _
  | true =>
    have h6 := goodN_len hg
    simp only [if_true]
    by_cases c : 30 < Rs.length
    · simp only [if_pos c, if_pos (show (Rs.length : Int) > 30 by omega)]
      exact Ev.now _
    · simp only [if_neg c, if_neg (show ¬ (Rs.length : Int) > 30 by omega)]
      exact Ev.bind (toPlan_ev l s t Rs (by omega) ⟨h6.2.2, h6.2.1⟩ hn) (Ev.now _)
theorem impl_FnExactIsNightPlan_ev (l : List Int) (s t : Int) (Rs : List (List (List Int))) (hl : l.length ≤ 1048576) (hn : n3 Rs ≤ 1048576) : Ev (fun k => impl_IsNightPlan.f k l s t Rs) (FnExactIsNightPlan_val l s t Rs) := by
  unfold impl_IsNightPlan.f FnExactIsNightPlan_val
  refine Ev.bind (ev_some (isNight_eq l s t)) ?_
  cases hg : goodN l s t with
  | false => exact Ev.now _
  | true =>
    have h6 := goodN_len hg
    simp only [if_true]
    by_cases c : 30 < Rs.length
    · simp only [if_pos c, if_pos (show (Rs.length : Int) > 30 by omega)]
      exact Ev.now _
    · simp only [if_neg c, if_neg (show ¬ (Rs.length : Int) > 30 by omega)]
      exact Ev.bind (isPlanN_ev l s t Rs (by omega) hn) (Ev.now _)
theorem FnExactIsNightPlan_small (l : List Int) (s t : Int) (Rs : List (List (List Int))) (hl : l.length ≤ 1048576) (hn : n3 Rs ≤ 1048576) : True := trivial
theorem FnExactIsNightPlan_pure : ∀ (l0_0 : List Int) (a0_1 : Int) (a0_2 : Int) (l1 : List (List (List Int))), goodL goodI l0_0 → goodI a0_1 → goodI a0_2 → goodL (goodL (goodL goodI)) l1 → ∃ k, laws_FnExactIsNightPlan.f k l0_0 a0_1 a0_2 l1 = some true := by
  intro l0_0 a0_1 a0_2 l1 g0_0 g0_1 g0_2 g1
  obtain ⟨u0, hu0, hc⟩ := szNight_cases l0_0 a0_1 a0_2 1048576 (by omega) (by omega) g0_0.1
  replace hu0 := ev_some hu0
  rcases hc with hc | ⟨b0, d0⟩
  · refine Ev.rounds ?_
    unfold laws_FnExactIsNightPlan.f
    repeat (first | exact Ev.now _ | (refine Ev.bind (by assumption) ?_; try dsimp only) | (simp only [hc, if_true, if_false, bne_self_eq_false, Bool.false_eq_true]) | refine Ev.step (fun k => laws_FnExactIsNightPlan.j0.eq_2 ..) ?_ | refine Ev.step (fun k => laws_FnExactIsNightPlan.j1.eq_2 ..) ?_ | refine Ev.step (fun k => laws_FnExactIsNightPlan.j2.eq_2 ..) ?_ | refine Ev.step (fun k => laws_FnExactIsNightPlan.j3.eq_2 ..) ?_ | refine Ev.step (fun k => laws_FnExactIsNightPlan.j4.eq_2 ..) ?_)
  have nu0 : ¬ u0 < 0 := by omega
  obtain ⟨u1, hu1, hc⟩ := szIntSSS_cases l1 u0 b0 (by omega) (good3 g1)
  rcases hc with hc | ⟨b1, d1⟩
  · refine Ev.rounds ?_
    unfold laws_FnExactIsNightPlan.f
    repeat (first | exact Ev.now _ | (refine Ev.bind (by assumption) ?_; try dsimp only) | (simp only [hc, nu0, if_true, if_false, bne_self_eq_false, Bool.false_eq_true]) | refine Ev.step (fun k => laws_FnExactIsNightPlan.j0.eq_2 ..) ?_ | refine Ev.step (fun k => laws_FnExactIsNightPlan.j1.eq_2 ..) ?_ | refine Ev.step (fun k => laws_FnExactIsNightPlan.j2.eq_2 ..) ?_ | refine Ev.step (fun k => laws_FnExactIsNightPlan.j3.eq_2 ..) ?_ | refine Ev.step (fun k => laws_FnExactIsNightPlan.j4.eq_2 ..) ?_)
  have nu1 : ¬ u1 < 0 := by omega
  have z0_0 : List.length l0_0 ≤ 1048576 := by omega
  have z1 : n3 l1 ≤ 1048576 := by omega
  have et0 := toNight_ev l0_0 a0_1 a0_2 z0_0
  have et1 := toIntSSS_ev l1 z1
  have es := spec_FnExactIsNightPlan_ev l0_0 a0_1 a0_2 l1 z0_0 z1
  have ei := impl_FnExactIsNightPlan_ev l0_0 a0_1 a0_2 l1 z0_0 z1
  have hsm := FnExactIsNightPlan_small l0_0 a0_1 a0_2 l1 z0_0 z1
  generalize FnExactIsNightPlan_val l0_0 a0_1 a0_2 l1 = rr at *
  obtain ⟨r0, r1⟩ := rr
  have ea0 : Ev (fun k => laws_eqNight.f k l0_0 a0_1 a0_2 l0_0 a0_1 a0_2) true := ev_eq (eqNight_ev l0_0 a0_1 a0_2 l0_0 a0_1 a0_2 z0_0) (decide_eq_true rfl)
  have ea1 : Ev (fun k => laws_eqIntSSS.f k l1 l1) true := ev_eq (eqIntSSS_ev l1 l1 z1) (decide_eq_true rfl)
  refine Ev.rounds ?_
  unfold laws_FnExactIsNightPlan.f
  repeat (first | exact Ev.now _ | (refine Ev.bind (by assumption) ?_; try dsimp only) | (simp only [nu0, nu1, if_true, if_false, bne_self_eq_false, Bool.false_eq_true]) | refine Ev.step (fun k => laws_FnExactIsNightPlan.j0.eq_2 ..) ?_ | refine Ev.step (fun k => laws_FnExactIsNightPlan.j1.eq_2 ..) ?_ | refine Ev.step (fun k => laws_FnExactIsNightPlan.j2.eq_2 ..) ?_ | refine Ev.step (fun k => laws_FnExactIsNightPlan.j3.eq_2 ..) ?_ | refine Ev.step (fun k => laws_FnExactIsNightPlan.j4.eq_2 ..) ?_)
end Go.Proofs.Ytpobeakggacdpaa.Pure
