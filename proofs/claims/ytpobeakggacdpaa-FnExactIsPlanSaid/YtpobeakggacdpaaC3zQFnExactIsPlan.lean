import Derived.Test.YtpobeakggacdpaaC3zx0
import Derived.Test.YtpobeakggacdpaaC3zx1
import Derived.Test.YtpobeakggacdpaaC3zx2
import Derived.Test.YtpobeakggacdpaaC3zx6
import Derived.Test.YtpobeakggacdpaaC3zx9
import Derived.Test.YtpobeakggacdpaaC3zH0
import Derived.Test.YtpobeakggacdpaaC3zH1
import Derived.Test.YtpobeakggacdpaaC3zQ0
import Derived.Test.YtpobeakggacdpaaC3zQ1
import Derived.Test.YtpobeakggacdpaaC3zQ2
import Derived.Test.YtpobeakggacdpaaC3zQ3
import Derived.Test.YtpobeakggacdpaaC3zQ4
namespace Go.Proofs.Ytpobeakggacdpaa.Pure
open Go.RowKit Go.Proofs.Ytpobeakggacdpaa.C3 Go.Proofs.Ytpobeakggacdpaa.H Go.Proofs.YtpobeakggacdpaaW.PrintWords Go.Proofs.YtpobeakggacdpaaW.PrintLast Go.Proofs.YtpobeakggacdpaaW.PrintMore
set_option linter.unusedVariables false
set_option linter.unusedSimpArgs false
def FnExactIsPlan_val (l : List Int) (s : Int) (ts : List (List Int)) : Bool × Bool := if goodP l s then (planP l.length s ts, true) else (false, false)
theorem spec_FnExactIsPlan_ev (l : List Int) (s : Int) (ts : List (List Int)) (hl : l.length ≤ 1048576) (hn : n2 ts ≤ 1048576) : Ev (fun k => spec_IsPlan.f k l s ts) (FnExactIsPlan_val l s ts) := by
  obtain ⟨hn1, hn2⟩ := szSum_bound List.length ts (by simpa only [n2] using hn)
  unfold spec_IsPlan.f FnExactIsPlan_val
  refine Ev.bind (paGood_ev l s hl) ?_
  cases hg : goodP l s with
  | false => exact Ev.now _
  | true =>
    simp only [if_true]
    exact Ev.bind (paPlan_ev l s ts (goodP_len hg) hn1 hn2) (Ev.now _)
theorem impl_FnExactIsPlan_ev (l : List Int) (s : Int) (ts : List (List Int)) (hl : l.length ≤ 1048576) (hn : n2 ts ≤ 1048576) : Ev (fun k => impl_IsPlan.f k l s ts) (FnExactIsPlan_val l s ts) := by
  obtain ⟨hn1, hn2⟩ := szSum_bound List.length ts (by simpa only [n2] using hn)
  unfold impl_IsPlan.f FnExactIsPlan_val
  refine Ev.bind (ev_some (isParty_eq l s)) ?_
  cases hg : goodP l s with
  | false => exact Ev.now _
  | true =>
    simp only [if_true]
    exact Ev.bind (isPlan_ev l s ts (goodP_len hg) hn1 hn2) (Ev.now _)
theorem FnExactIsPlan_small (l : List Int) (s : Int) (ts : List (List Int)) (hl : l.length ≤ 1048576) (hn : n2 ts ≤ 1048576) : True := trivial
theorem FnExactIsPlan_pure : ∀ (l0_0 : List Int) (a0_1 : Int) (l1 : List (List Int)), goodL goodI l0_0 → goodI a0_1 → goodL (goodL goodI) l1 → ∃ k, laws_FnExactIsPlan.f k l0_0 a0_1 l1 = some true := by
  intro l0_0 a0_1 l1 g0_0 g0_1 g1
  obtain ⟨u0, hu0, hc⟩ := szParty_cases l0_0 a0_1 1048576 (by omega) (by omega) g0_0.1
  replace hu0 := ev_some hu0
  rcases hc with hc | ⟨b0, d0⟩
  · refine Ev.rounds ?_
    unfold laws_FnExactIsPlan.f
    repeat (first | exact Ev.now _ | (refine Ev.bind (by assumption) ?_; try dsimp only) | (simp only [hc, if_true, if_false, bne_self_eq_false, Bool.false_eq_true]) | refine Ev.step (fun k => laws_FnExactIsPlan.j0.eq_2 ..) ?_ | refine Ev.step (fun k => laws_FnExactIsPlan.j1.eq_2 ..) ?_ | refine Ev.step (fun k => laws_FnExactIsPlan.j2.eq_2 ..) ?_ | refine Ev.step (fun k => laws_FnExactIsPlan.j3.eq_2 ..) ?_ | refine Ev.step (fun k => laws_FnExactIsPlan.j4.eq_2 ..) ?_)
  have nu0 : ¬ u0 < 0 := by omega
  obtain ⟨u1, hu1, hc⟩ := szIntSS_cases l1 u0 b0 (by omega) (good2 g1)
  rcases hc with hc | ⟨b1, d1⟩
  · refine Ev.rounds ?_
    unfold laws_FnExactIsPlan.f
    repeat (first | exact Ev.now _ | (refine Ev.bind (by assumption) ?_; try dsimp only) | (simp only [hc, nu0, if_true, if_false, bne_self_eq_false, Bool.false_eq_true]) | refine Ev.step (fun k => laws_FnExactIsPlan.j0.eq_2 ..) ?_ | refine Ev.step (fun k => laws_FnExactIsPlan.j1.eq_2 ..) ?_ | refine Ev.step (fun k => laws_FnExactIsPlan.j2.eq_2 ..) ?_ | refine Ev.step (fun k => laws_FnExactIsPlan.j3.eq_2 ..) ?_ | refine Ev.step (fun k => laws_FnExactIsPlan.j4.eq_2 ..) ?_)
  have nu1 : ¬ u1 < 0 := by omega
  have z0_0 : List.length l0_0 ≤ 1048576 := by omega
  have z1 : n2 l1 ≤ 1048576 := by omega
  have et0 := toParty_ev l0_0 a0_1 z0_0
  have et1 := toIntSS_ev l1 z1
  have es := spec_FnExactIsPlan_ev l0_0 a0_1 l1 z0_0 z1
  have ei := impl_FnExactIsPlan_ev l0_0 a0_1 l1 z0_0 z1
  have hsm := FnExactIsPlan_small l0_0 a0_1 l1 z0_0 z1
  generalize FnExactIsPlan_val l0_0 a0_1 l1 = rr at *
  obtain ⟨r0, r1⟩ := rr
  have ea0 : Ev (fun k => laws_eqParty.f k l0_0 a0_1 l0_0 a0_1) true := ev_eq (eqParty_ev l0_0 a0_1 l0_0 a0_1 z0_0) (decide_eq_true rfl)
  have ea1 : Ev (fun k => laws_eqIntSS.f k l1 l1) true := ev_eq (eqIntSS_ev l1 l1 z1) (decide_eq_true rfl)
  refine Ev.rounds ?_
  unfold laws_FnExactIsPlan.f
  repeat (first | exact Ev.now _ | (refine Ev.bind (by assumption) ?_; try dsimp only) | (simp only [nu0, nu1, if_true, if_false, bne_self_eq_false, Bool.false_eq_true]) | refine Ev.step (fun k => laws_FnExactIsPlan.j0.eq_2 ..) ?_ | refine Ev.step (fun k => laws_FnExactIsPlan.j1.eq_2 ..) ?_ | refine Ev.step (fun k => laws_FnExactIsPlan.j2.eq_2 ..) ?_ | refine Ev.step (fun k => laws_FnExactIsPlan.j3.eq_2 ..) ?_ | refine Ev.step (fun k => laws_FnExactIsPlan.j4.eq_2 ..) ?_)
end Go.Proofs.Ytpobeakggacdpaa.Pure
