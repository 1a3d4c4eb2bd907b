import Derived.Test.YtpobeakggacdpaaC6zx0
import Derived.Test.YtpobeakggacdpaaC6zx1
import Derived.Test.YtpobeakggacdpaaC6zx10
import Derived.Test.YtpobeakggacdpaaC6zx2
import Derived.Test.YtpobeakggacdpaaC6zx4
import Derived.Test.YtpobeakggacdpaaC6zx9
import Derived.Test.YtpobeakggacdpaaC6zH0
import Derived.Test.YtpobeakggacdpaaC6zH1
import Derived.Test.YtpobeakggacdpaaC6zQ0
import Derived.Test.YtpobeakggacdpaaC6zQ1
import Derived.Test.YtpobeakggacdpaaC6zQ2
import Derived.Test.YtpobeakggacdpaaC6zQ3
import Derived.Test.YtpobeakggacdpaaC6zQ4
import Derived.Test.YtpobeakggacdpaaC6zQ5
import Derived.Test.YtpobeakggacdpaaC6zQ6
namespace Go.Proofs.Ytpobeakggacdpaa.Pure
open Go.RowKit Go.Proofs.Ytpobeakggacdpaa.C6 Go.Proofs.Ytpobeakggacdpaa.H Go.Proofs.YtpobeakggacdpaaW.PrintWords Go.Proofs.YtpobeakggacdpaaW.PrintLast Go.Proofs.YtpobeakggacdpaaW.PrintMore
set_option linter.unusedVariables false
set_option linter.unusedSimpArgs false
def FnExactCanRound_val (l : List Int) (s t : Int) (ov : List Bool) (c : Int) (R : List (List Int)) : Bool × Bool := if campP l s t ov c then (roundP l.length s t ov c R, true) else (false, false)
theorem spec_FnExactCanRound_ev (l : List Int) (s t : Int) (ov : List Bool) (c : Int) (R : List (List Int)) (hl : l.length ≤ 1048576) (ho : ov.length ≤ 1048576) (hn : n2 R ≤ 1048576) : Ev (fun k => spec_CanRound.f k l s t ov c R) (FnExactCanRound_val l s t ov c R) := by
  obtain ⟨hn1, hn2⟩ := szSum_bound List.length R (by simpa only [n2] using hn)
  unfold spec_CanRound.f FnExactCanRound_val
  refine Ev.bind (toCampG_ev l s t ov c hl) ?_
  cases hg : campP l s t ov c with
  | false => exact Ev.now _
  | true =>
    obtain ⟨h1, h2, h3⟩ := campP_in hg
    have h6 := goodN_len h1
    simp only [if_true]
    exact Ev.bind (toCan_ev l s t ov c R (by omega) h2 hn1 hn2 ⟨h6.2.2, h6.2.1⟩ h3) (Ev.now _)
theorem impl_FnExactCanRound_ev (l : List Int) (s t : Int) (ov : List Bool) (c : Int) (R : List (List Int)) (hl : l.length ≤ 1048576) (ho : ov.length ≤ 1048576) (hn : n2 R ≤ 1048576) : Ev (fun k => impl_CanRound.f k l s t ov c R) (FnExactCanRound_val l s t ov c R) := by
  obtain ⟨hn1, hn2⟩ := szSum_bound List.length R (by simpa only [n2] using hn)
  unfold impl_CanRound.f FnExactCanRound_val
  refine Ev.bind (ev_some (isCamp_eq l s t ov c)) ?_
  cases hg : campP l s t ov c with
  | false => exact Ev.now _
  | true =>
    obtain ⟨h1, h2, h3⟩ := campP_in hg
    simp only [if_true]
    exact Ev.bind (isRound_ev l s t ov c R hl h2 hn1 hn2) (Ev.now _)
theorem FnExactCanRound_small (l : List Int) (s t : Int) (ov : List Bool) (c : Int) (R : List (List Int)) (hl : l.length ≤ 1048576) (ho : ov.length ≤ 1048576) (hn : n2 R ≤ 1048576) : True := trivial
theorem FnExactCanRound_pure : ∀ (l0_0 : List Int) (a0_1 : Int) (a0_2 : Int) (l1_0 : List Bool) (a1_1 : Int) (l2 : List (List Int)), goodL goodI l0_0 → goodI a0_1 → goodI a0_2 → goodL (fun _ => True) l1_0 → goodI a1_1 → goodL (goodL goodI) l2 → ∃ k, laws_FnExactCanRound.f k l0_0 a0_1 a0_2 l1_0 a1_1 l2 = some true := by
  intro l0_0 a0_1 a0_2 l1_0 a1_1 l2 g0_0 g0_1 g0_2 g1_0 g1_1 g2
  obtain ⟨u0, hu0, hc⟩ := szNight_cases l0_0 a0_1 a0_2 1048576 (by omega) (by omega) g0_0.1
  replace hu0 := ev_some hu0
  rcases hc with hc | ⟨b0, d0⟩
  · refine Ev.rounds ?_
    unfold laws_FnExactCanRound.f
    repeat (first | exact Ev.now _ | (refine Ev.bind (by assumption) ?_; try dsimp only) | (simp only [hc, if_true, if_false, bne_self_eq_false, Bool.false_eq_true]) | refine Ev.step (fun k => laws_FnExactCanRound.j0.eq_2 ..) ?_ | refine Ev.step (fun k => laws_FnExactCanRound.j1.eq_2 ..) ?_ | refine Ev.step (fun k => laws_FnExactCanRound.j2.eq_2 ..) ?_ | refine Ev.step (fun k => laws_FnExactCanRound.j3.eq_2 ..) ?_ | refine Ev.step (fun k => laws_FnExactCanRound.j4.eq_2 ..) ?_ | refine Ev.step (fun k => laws_FnExactCanRound.j5.eq_2 ..) ?_ | refine Ev.step (fun k => laws_FnExactCanRound.j6.eq_2 ..) ?_)
  have nu0 : ¬ u0 < 0 := by omega
  obtain ⟨u1, hu1, hc⟩ := szCamp_cases l1_0 a1_1 u0 b0 (by omega) g1_0.1
  replace hu1 := ev_some hu1
  rcases hc with hc | ⟨b1, d1⟩
  · refine Ev.rounds ?_
    unfold laws_FnExactCanRound.f
    repeat (first | exact Ev.now _ | (refine Ev.bind (by assumption) ?_; try dsimp only) | (simp only [hc, nu0, if_true, if_false, bne_self_eq_false, Bool.false_eq_true]) | refine Ev.step (fun k => laws_FnExactCanRound.j0.eq_2 ..) ?_ | refine Ev.step (fun k => laws_FnExactCanRound.j1.eq_2 ..) ?_ | refine Ev.step (fun k => laws_FnExactCanRound.j2.eq_2 ..) ?_ | refine Ev.step (fun k => laws_FnExactCanRound.j3.eq_2 ..) ?_ | refine Ev.step (fun k => laws_FnExactCanRound.j4.eq_2 ..) ?_ | refine Ev.step (fun k => laws_FnExactCanRound.j5.eq_2 ..) ?_ | refine Ev.step (fun k => laws_FnExactCanRound.j6.eq_2 ..) ?_)
  have nu1 : ¬ u1 < 0 := by omega
  obtain ⟨u2, hu2, hc⟩ := szIntSS_cases l2 u1 b1 (by omega) (good2 g2)
  rcases hc with hc | ⟨b2, d2⟩
  · refine Ev.rounds ?_
    unfold laws_FnExactCanRound.f
    repeat (first | exact Ev.now _ | (refine Ev.bind (by assumption) ?_; try dsimp only) | (simp only [hc, nu0, nu1, if_true, if_false, bne_self_eq_false, Bool.false_eq_true]) | refine Ev.step (fun k => laws_FnExactCanRound.j0.eq_2 ..) ?_ | refine Ev.step (fun k => laws_FnExactCanRound.j1.eq_2 ..) ?_ | refine Ev.step (fun k => laws_FnExactCanRound.j2.eq_2 ..) ?_ | refine Ev.step (fun k => laws_FnExactCanRound.j3.eq_2 ..) ?_ | refine Ev.step (fun k => laws_FnExactCanRound.j4.eq_2 ..) ?_ | refine Ev.step (fun k => laws_FnExactCanRound.j5.eq_2 ..) ?_ | refine Ev.step (fun k => laws_FnExactCanRound.j6.eq_2 ..) ?_)
  have nu2 : ¬ u2 < 0 := by omega
  have z0_0 : List.length l0_0 ≤ 1048576 := by omega
  have z1_0 : List.length l1_0 ≤ 1048576 := by omega
  have z2 : n2 l2 ≤ 1048576 := by omega
  have et0 := toNight_ev l0_0 a0_1 a0_2 z0_0
  have et1 := toCamp_ev l1_0 a1_1 z1_0
  have et2 := toIntSS_ev l2 z2
  have es := spec_FnExactCanRound_ev l0_0 a0_1 a0_2 l1_0 a1_1 l2 z0_0 z1_0 z2
  have ei := impl_FnExactCanRound_ev l0_0 a0_1 a0_2 l1_0 a1_1 l2 z0_0 z1_0 z2
  have hsm := FnExactCanRound_small l0_0 a0_1 a0_2 l1_0 a1_1 l2 z0_0 z1_0 z2
  generalize FnExactCanRound_val l0_0 a0_1 a0_2 l1_0 a1_1 l2 = rr at *
  obtain ⟨r0, r1⟩ := rr
  have ea0 : Ev (fun k => laws_eqNight.f k l0_0 a0_1 a0_2 l0_0 a0_1 a0_2) true := ev_eq (eqNight_ev l0_0 a0_1 a0_2 l0_0 a0_1 a0_2 z0_0) (decide_eq_true rfl)
  have ea1 : Ev (fun k => laws_eqCamp.f k l1_0 a1_1 l1_0 a1_1) true := ev_eq (eqCamp_ev l1_0 a1_1 l1_0 a1_1 z1_0) (decide_eq_true rfl)
  have ea2 : Ev (fun k => laws_eqIntSS.f k l2 l2) true := ev_eq (eqIntSS_ev l2 l2 z2) (decide_eq_true rfl)
  refine Ev.rounds ?_
  unfold laws_FnExactCanRound.f
  repeat (first | exact Ev.now _ | (refine Ev.bind (by assumption) ?_; try dsimp only) | (simp only [nu0, nu1, nu2, if_true, if_false, bne_self_eq_false, Bool.false_eq_true]) | refine Ev.step (fun k => laws_FnExactCanRound.j0.eq_2 ..) ?_ | refine Ev.step (fun k => laws_FnExactCanRound.j1.eq_2 ..) ?_ | refine Ev.step (fun k => laws_FnExactCanRound.j2.eq_2 ..) ?_ | refine Ev.step (fun k => laws_FnExactCanRound.j3.eq_2 ..) ?_ | refine Ev.step (fun k => laws_FnExactCanRound.j4.eq_2 ..) ?_ | refine Ev.step (fun k => laws_FnExactCanRound.j5.eq_2 ..) ?_ | refine Ev.step (fun k => laws_FnExactCanRound.j6.eq_2 ..) ?_)
end Go.Proofs.Ytpobeakggacdpaa.Pure
