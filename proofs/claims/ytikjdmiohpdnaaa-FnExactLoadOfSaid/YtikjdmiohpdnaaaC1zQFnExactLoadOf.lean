import Derived.Test.YtikjdmiohpdnaaaC1zx0
import Derived.Test.YtikjdmiohpdnaaaC1zx1
import Derived.Test.YtikjdmiohpdnaaaC1zx2
import Derived.Test.YtikjdmiohpdnaaaC1zx3
import Derived.Test.YtikjdmiohpdnaaaC1zx4
import Derived.Test.YtikjdmiohpdnaaaC1zH0
import Derived.Test.YtikjdmiohpdnaaaC1zH1
import Derived.Test.YtikjdmiohpdnaaaC1zQ0
import Derived.Test.YtikjdmiohpdnaaaC1zQ1
import Derived.Test.YtikjdmiohpdnaaaC1zQ2
import Derived.Test.YtikjdmiohpdnaaaC1zQ3
import Derived.Test.YtikjdmiohpdnaaaC1zQ8
namespace Go.Proofs.Ytikjdmiohpdnaaa.Pure
open Go.RowKit Go.Proofs.Ytikjdmiohpdnaaa.C1 Go.Proofs.Ytikjdmiohpdnaaa.H Go.Proofs.YtikjdmiohpdnaaaW.PrintWords Go.Proofs.YtikjdmiohpdnaaaW.PrintLast Go.Proofs.YtikjdmiohpdnaaaW.PrintMore
set_option linter.unusedVariables false
set_option linter.unusedSimpArgs false
def FnExactLoadOf_val (l : List Int) (rw : List Bool) (m : Int) (g : List Int) : Int × Bool := if goodC l rw m && grpC l.length g then (loadP l g 0, true) else (0, false)
theorem spec_FnExactLoadOf_ev (l : List Int) (rw : List Bool) (m : Int) (g : List Int) (hl : l.length ≤ 1048576) (hr : rw.length ≤ 1048576) (hg : g.length ≤ 1048576) : Ev (fun k => spec_LoadOf.f k l rw m g) (FnExactLoadOf_val l rw m g) := by
  unfold spec_LoadOf.f FnExactLoadOf_val
  refine Ev.bind (loGood_ev l rw m hl) ?_
  cases hc : goodC l rw m with
  | false => exact Ev.now _
  | true =>
    simp only [if_true, Bool.true_and, wr_id (show -9223372036854775808 ≤ (l.length : Int) - 1 by omega) (by omega)]
    refine Ev.bind (l1Rising_ev g 0 ((l.length : Int) - 1) (by omega)) ?_
    show Ev (fun k => if grpC l.length g = true then _ else _) _
    cases hq : grpC l.length g with
    | false => exact Ev.now _
    | true =>
      simp only [if_true]
      exact Ev.bind (loLoad_ev l rw m g hg (grpC_in hq)) (Ev.now _)
theorem impl_FnExactLoadOf_ev (l : List Int) (rw : List Bool) (m : Int) (g : List Int) (hl : l.length ≤ 1048576) (hr : rw.length ≤ 1048576) (hg : g.length ≤ 1048576) : Ev (fun k => impl_LoadOf.f k l rw m g) (FnExactLoadOf_val l rw m g) := by
  unfold impl_LoadOf.f FnExactLoadOf_val
  refine Ev.bind (ev_some (isCrew_eq l rw m)) ?_
  cases hc : goodC l rw m with
  | false => exact Ev.now _
  | true =>
    simp only [if_true, Bool.true_and]
    refine Ev.bind (crewGroup_ev l rw m g hl hg) ?_
    cases hq : grpC l.length g with
    | false => exact Ev.now _
    | true =>
      simp only [if_true]
      exact Ev.bind (load_ev l rw m g hg (grpC_in hq)) (Ev.now _)
theorem FnExactLoadOf_small (l : List Int) (rw : List Bool) (m : Int) (g : List Int) (hl : l.length ≤ 1048576) (hr : rw.length ≤ 1048576) (hg : g.length ≤ 1048576) : True := trivial
theorem FnExactLoadOf_pure : ∀ (l0_0 : List Int) (l0_1 : List Bool) (a0_2 : Int) (l1 : List Int), goodL goodI l0_0 → goodL (fun _ => True) l0_1 → goodI a0_2 → goodL goodI l1 → ∃ k, laws_FnExactLoadOf.f k l0_0 l0_1 a0_2 l1 = some true := by
  intro l0_0 l0_1 a0_2 l1 g0_0 g0_1 g0_2 g1
  by_cases nq1 : (l1.length : Int) > 1048576
  · refine Ev.rounds ?_
    unfold laws_FnExactLoadOf.f
    repeat (first | exact Ev.now _ | (refine Ev.bind (by assumption) ?_; try dsimp only) | (simp only [nq1, if_true, if_false, bne_self_eq_false, Bool.false_eq_true]) | refine Ev.step (fun k => laws_FnExactLoadOf.j0.eq_2 ..) ?_ | refine Ev.step (fun k => laws_FnExactLoadOf.j1.eq_2 ..) ?_ | refine Ev.step (fun k => laws_FnExactLoadOf.j2.eq_2 ..) ?_ | refine Ev.step (fun k => laws_FnExactLoadOf.j3.eq_2 ..) ?_ | refine Ev.step (fun k => laws_FnExactLoadOf.j4.eq_2 ..) ?_)
  obtain ⟨u0, hu0, hc⟩ := szCrew_cases l0_0 l0_1 a0_2 1048576 (by omega) (by omega) g0_0.1 g0_1.1
  replace hu0 := ev_some hu0
  rcases hc with hc | ⟨b0, d0⟩
  · refine Ev.rounds ?_
    unfold laws_FnExactLoadOf.f
    repeat (first | exact Ev.now _ | (refine Ev.bind (by assumption) ?_; try dsimp only) | (simp only [hc, nq1, if_true, if_false, bne_self_eq_false, Bool.false_eq_true]) | refine Ev.step (fun k => laws_FnExactLoadOf.j0.eq_2 ..) ?_ | refine Ev.step (fun k => laws_FnExactLoadOf.j1.eq_2 ..) ?_ | refine Ev.step (fun k => laws_FnExactLoadOf.j2.eq_2 ..) ?_ | refine Ev.step (fun k => laws_FnExactLoadOf.j3.eq_2 ..) ?_ | refine Ev.step (fun k => laws_FnExactLoadOf.j4.eq_2 ..) ?_)
  have nu0 : ¬ u0 < 0 := by omega
  have z0_0 : List.length l0_0 ≤ 1048576 := by omega
  have z0_1 : List.length l0_1 ≤ 1048576 := by omega
  have z1 : List.length l1 ≤ 1048576 := by omega
  have et0 := toCrew_ev l0_0 l0_1 a0_2 z0_0 z0_1
  have et1 := toIntS_ev l1 z1
  have es := spec_FnExactLoadOf_ev l0_0 l0_1 a0_2 l1 z0_0 z0_1 z1
  have ei := impl_FnExactLoadOf_ev l0_0 l0_1 a0_2 l1 z0_0 z0_1 z1
  have hsm := FnExactLoadOf_small l0_0 l0_1 a0_2 l1 z0_0 z0_1 z1
  generalize FnExactLoadOf_val l0_0 l0_1 a0_2 l1 = rr at *
  obtain ⟨r0, r1⟩ := rr
  have ea0 : Ev (fun k => laws_eqCrew.f k l0_0 l0_1 a0_2 l0_0 l0_1 a0_2) true := ev_eq (eqCrew_ev l0_0 l0_1 a0_2 l0_0 l0_1 a0_2 z0_0 z0_1) (decide_eq_true rfl)
  have ea1 : Ev (fun k => laws_eqIntS.f k l1 l1) true := ev_eq (eqIntS_ev l1 l1 z1) (decide_eq_true rfl)
  refine Ev.rounds ?_
  unfold laws_FnExactLoadOf.f
  repeat (first | exact Ev.now _ | (refine Ev.bind (by assumption) ?_; try dsimp only) | (simp only [nq1, nu0, if_true, if_false, bne_self_eq_false, Bool.false_eq_true]) | refine Ev.step (fun k => laws_FnExactLoadOf.j0.eq_2 ..) ?_ | refine Ev.step (fun k => laws_FnExactLoadOf.j1.eq_2 ..) ?_ | refine Ev.step (fun k => laws_FnExactLoadOf.j2.eq_2 ..) ?_ | refine Ev.step (fun k => laws_FnExactLoadOf.j3.eq_2 ..) ?_ | refine Ev.step (fun k => laws_FnExactLoadOf.j4.eq_2 ..) ?_)
end Go.Proofs.Ytikjdmiohpdnaaa.Pure
