import Derived.Test.YtikjdmiohpdnaaaC5zx0
import Derived.Test.YtikjdmiohpdnaaaC5zx1
import Derived.Test.YtikjdmiohpdnaaaC5zx2
import Derived.Test.YtikjdmiohpdnaaaC5zx5
import Derived.Test.YtikjdmiohpdnaaaC5zx6
import Derived.Test.YtikjdmiohpdnaaaC5zx7
import Derived.Test.YtikjdmiohpdnaaaC5zH0
import Derived.Test.YtikjdmiohpdnaaaC5zH1
import Derived.Test.YtikjdmiohpdnaaaC5zQ0
import Derived.Test.YtikjdmiohpdnaaaC5zQ1
import Derived.Test.YtikjdmiohpdnaaaC5zQ2
import Derived.Test.YtikjdmiohpdnaaaC5zQ3
import Derived.Test.YtikjdmiohpdnaaaC5zQ4
import Derived.Test.YtikjdmiohpdnaaaC5zQ5
import Derived.Test.YtikjdmiohpdnaaaC5zQ8
import Derived.Test.YtikjdmiohpdnaaaC5zQ9
import Derived.Test.YtikjdmiohpdnaaaC5zQS
import Derived.Test.YtikjdmiohpdnaaaC5zH2
import Derived.Test.YtikjdmiohpdnaaaC5zS
namespace Go.Proofs.Ytikjdmiohpdnaaa.Pure
open Go.Proofs.Ytikjdmiohpdnaaa.Walk Go.RowKit Go.Proofs.Ytikjdmiohpdnaaa.C5 Go.Proofs.Ytikjdmiohpdnaaa.H Go.Proofs.YtikjdmiohpdnaaaW.PrintWords Go.Proofs.YtikjdmiohpdnaaaW.PrintLast Go.Proofs.YtikjdmiohpdnaaaW.PrintMore
set_option linter.unusedVariables false
set_option linter.unusedSimpArgs false
def FnExactRideWithCrew_val (l : List Int) (rw : List Bool) (m : Int) (st : List Bool) (b : Bool) (g : List Int) : List Bool × Bool × Bool := if goodC l rw m && stateP l.length st b && rideC l rw m st b g then (mv (!b) g st, !b, true) else ([], false, false)
theorem spec_FnExactRideWithCrew_ev (l : List Int) (rw : List Bool) (m : Int) (st : List Bool) (b : Bool) (g : List Int) (hl : l.length ≤ 1048576) (hr : rw.length ≤ 1048576) (hs : st.length ≤ 1048576) (hg : g.length ≤ 1048576) : Ev (fun k => spec_RideWithCrew.f k l rw m st b g) (FnExactRideWithCrew_val l rw m st b g) := by
  unfold spec_RideWithCrew.f FnExactRideWithCrew_val
  have hasked : Ev (fun k => spec_loAsked.f k l rw m st b) (goodC l rw m && stateP l.length st b) := by
    unfold spec_loAsked.f
    refine Ev.bind (loGood_ev l rw m hl) ?_
    cases goodC l rw m with
    | false => exact Ev.now _
    | true =>
      simp only [if_true, Bool.true_and]
      exact Ev.bind (ev_some (show spec_loParty.f l rw m = some (l, 0) from rfl)) (Ev.bind (paState_ev l 0 st b hs) (Ev.now _))
  refine Ev.bind hasked ?_
  cases hq : (goodC l rw m && stateP l.length st b) with
  | false => exact Ev.now _
  | true =>
    simp only [Bool.and_eq_true] at hq
    obtain ⟨h1, h2, h3⟩ := goodC_in hq.1
    have h4 : st.length = l.length := by
      have := hq.2
      unfold stateP at this
      simp only [Bool.and_eq_true, decide_eq_true_eq] at this
      exact this.1
    simp only [if_true, Bool.true_and]
    refine Ev.bind (loCan_ev l rw m st b g hl hg h3 h4) ?_
    cases hc : rideC l rw m st b g with
    | false => exact Ev.now _
    | true =>
      obtain ⟨hi, hb⟩ := rideC_in hc
      simp only [if_true]
      exact Ev.bind (paCross_ev st b g hs hg (by rw [h4]; exact hi) hb) (Ev.now _)
theorem impl_FnExactRideWithCrew_ev (l : List Int) (rw : List Bool) (m : Int) (st : List Bool) (b : Bool) (g : List Int) (hl : l.length ≤ 1048576) (hr : rw.length ≤ 1048576) (hs : st.length ≤ 1048576) (hg : g.length ≤ 1048576) : Ev (fun k => impl_RideWithCrew.f k l rw m st b g) (FnExactRideWithCrew_val l rw m st b g) := by
  unfold impl_RideWithCrew.f FnExactRideWithCrew_val
  have hasked : Ev (fun k => impl_Crew_hasState.f k l rw m st b) (goodC l rw m && stateP l.length st b) := by
    unfold impl_Crew_hasState.f
    refine Ev.bind (ev_some (isCrew_eq l rw m)) ?_
    cases goodC l rw m with
    | false => exact Ev.now _
    | true =>
      simp only [if_true, Bool.true_and]
      exact Ev.bind (isStateOf_ev l.length st b hs) (Ev.now _)
  refine Ev.bind hasked ?_
  cases hq : (goodC l rw m && stateP l.length st b) with
  | false => exact Ev.now _
  | true =>
    simp only [Bool.and_eq_true] at hq
    obtain ⟨h1, h2, h3⟩ := goodC_in hq.1
    have h4 : st.length = l.length := by
      have := hq.2
      unfold stateP at this
      simp only [Bool.and_eq_true, decide_eq_true_eq] at this
      exact this.1
    simp only [if_true, Bool.true_and]
    refine Ev.bind (isRide_ev l rw m st b g hl hg h3 h4) ?_
    cases hc : rideC l rw m st b g with
    | false => exact Ev.now _
    | true =>
      obtain ⟨hi, hb⟩ := rideC_in hc
      simp only [if_true]
      exact Ev.bind (moved_ev st b g hs hg (by rw [h4]; exact hi)) (Ev.now _)
theorem FnExactRideWithCrew_small (l : List Int) (rw : List Bool) (m : Int) (st : List Bool) (b : Bool) (g : List Int) (hl : l.length ≤ 1048576) (hr : rw.length ≤ 1048576) (hs : st.length ≤ 1048576) (hg : g.length ≤ 1048576) : (FnExactRideWithCrew_val l rw m st b g).1.length ≤ 1048576 := by
  unfold FnExactRideWithCrew_val
  split
  · simpa [mv_len] using hs
  · simp
theorem FnExactRideWithCrew_all (A0_0 : Option Addr) (c0_0 : Nat) (l0_0 : List Int) (A0_1 : Option Addr) (c0_1 : Nat) (l0_1 : List Bool) (a0_2 : Int) (A1_0 : Option Addr) (c1_0 : Nat) (l1_0 : List Bool) (a1_1 : Bool) (A2 : Option Addr) (c2 : Nat) (l2 : List Int) (w : World) (hr0_0 : Kd.C (Kd.int .i64) w A0_0 l0_0.length l0_0) (hc0_0 : l0_0.length ≤ c0_0) (hr0_1 : Kd.C Kd.bool w A0_1 l0_1.length l0_1) (hc0_1 : l0_1.length ≤ c0_1) (hr1_0 : Kd.C Kd.bool w A1_0 l1_0.length l1_0) (hc1_0 : l1_0.length ≤ c1_0) (hr2 : Kd.C (Kd.int .i64) w A2 l2.length l2) (hc2 : l2.length ≤ c2) (g0_0 : goodL goodI l0_0) (g0_1 : goodL (fun _ => True) l0_1) (g0_2 : goodI a0_2) (g1_0 : goodL (fun _ => True) l1_0) (g2 : goodL goodI l2) :
    Calls Try.prog 4 #[.agg #[.slice A0_0 l0_0.length c0_0, .slice A0_1 l0_1.length c0_1, .int .i64 a0_2], .agg #[.slice A1_0 l1_0.length c1_0, .bool a1_1], .slice A2 l2.length c2] w fun e w' => e = .returned (.bool true) ∧ Below w.heap.size w w' := by
  by_cases nq2 : (l2.length : Int) > 1048576
  · exact FnExactRideWithCrew_shortq2 _ _ _ _ _ _ _ _ _ _ _ _ _ _ w hr0_0 hc0_0 hr0_1 hc0_1 hr1_0 hc1_0 hr2 hc2 (by omega)
  have nqz2 : l2.length ≤ 1048576 := by omega
  obtain ⟨u0, hu0, hc⟩ := szCrew_cases l0_0 l0_1 a0_2 1048576 (by omega) (by omega) g0_0.1 g0_1.1
  replace hu0 := ev_some hu0
  rcases hc with hc | ⟨b0, d0⟩
  · obtain ⟨Kx, fx⟩ := hu0
    exact FnExactRideWithCrew_short0 _ _ _ _ _ _ _ _ _ _ _ _ _ _ w hr0_0 hc0_0 hr0_1 hc0_1 hr1_0 hc1_0 hr2 hc2 nqz2  _ (fx _ (Nat.le_refl _)) hc
  have nu0 : ¬ u0 < 0 := by omega
  obtain ⟨u1, hu1, hc⟩ := szState_cases l1_0 a1_1 u0 b0 (by omega) g1_0.1
  replace hu1 := ev_some hu1
  rcases hc with hc | ⟨b1, d1⟩
  · obtain ⟨Ky0, fy0⟩ := hu0
    obtain ⟨Kx, fx⟩ := hu1
    exact FnExactRideWithCrew_short1 _ _ _ _ _ _ _ _ _ _ _ _ _ _ w hr0_0 hc0_0 hr0_1 hc0_1 hr1_0 hc1_0 hr2 hc2 nqz2 _ (fy0 _ (Nat.le_refl _)) nu0 _ (fx _ (Nat.le_refl _)) hc
  have nu1 : ¬ u1 < 0 := by omega
  have z0_0 : List.length l0_0 ≤ 1048576 := by omega
  have z0_1 : List.length l0_1 ≤ 1048576 := by omega
  have z1_0 : List.length l1_0 ≤ 1048576 := by omega
  have z2 : List.length l2 ≤ 1048576 := by omega
  have et0 := toCrew_ev l0_0 l0_1 a0_2 z0_0 z0_1
  have et1 := toState_ev l1_0 a1_1 z1_0
  have et2 := toIntS_ev l2 z2
  have es := spec_FnExactRideWithCrew_ev l0_0 l0_1 a0_2 l1_0 a1_1 l2 z0_0 z0_1 z1_0 z2
  have ei := impl_FnExactRideWithCrew_ev l0_0 l0_1 a0_2 l1_0 a1_1 l2 z0_0 z0_1 z1_0 z2
  have hsm := FnExactRideWithCrew_small l0_0 l0_1 a0_2 l1_0 a1_1 l2 z0_0 z0_1 z1_0 z2
  generalize FnExactRideWithCrew_val l0_0 l0_1 a0_2 l1_0 a1_1 l2 = rr at *
  obtain ⟨r0_0, r0_1, r1⟩ := rr
  dsimp only at hsm
  have s0_0 := hsm
  have eq0 : Ev (fun k => laws_eqState.f k r0_0 r0_1 r0_0 r0_1) true := ev_eq (eqState_ev r0_0 r0_1 r0_0 r0_1 s0_0) (decide_eq_true rfl)
  have ea0 : Ev (fun k => laws_eqCrew.f k l0_0 l0_1 a0_2 l0_0 l0_1 a0_2) true := ev_eq (eqCrew_ev l0_0 l0_1 a0_2 l0_0 l0_1 a0_2 z0_0 z0_1) (decide_eq_true rfl)
  have ea1 : Ev (fun k => laws_eqState.f k l1_0 a1_1 l1_0 a1_1) true := ev_eq (eqState_ev l1_0 a1_1 l1_0 a1_1 z1_0) (decide_eq_true rfl)
  have ea2 : Ev (fun k => laws_eqIntS.f k l2 l2) true := ev_eq (eqIntS_ev l2 l2 z2) (decide_eq_true rfl)
  have ema0 := markCrew_ev l0_0 l0_1 a0_2 (1) z0_0 z0_1
  have bma0_0 := mkS_bound l0_0 (1) (by omega) (by omega)
  have na0_0 : ¬ (mkS l0_0 (1)).1 < 0 := by omega
  have bma0_1 := mkB_bound l0_1 ((mkS l0_0 (1)).1) (by omega) (by omega)
  have na0_1 : ¬ (mkB l0_1 ((mkS l0_0 (1)).1)).1 < 0 := by omega
  have ema1 := markState_ev l1_0 a1_1 ((mkB l0_1 ((mkS l0_0 (1)).1)).1) z1_0
  have bma1_0 := mkB_bound l1_0 ((mkB l0_1 ((mkS l0_0 (1)).1)).1) (by omega) (by omega)
  have na1_0 : ¬ (mkB l1_0 ((mkB l0_1 ((mkS l0_0 (1)).1)).1)).1 < 0 := by omega
  have ema2 := markIntS_ev l2 ((mkB l1_0 ((mkB l0_1 ((mkS l0_0 (1)).1)).1)).1) z2
  have bma2 := mkS_bound l2 ((mkB l1_0 ((mkB l0_1 ((mkS l0_0 (1)).1)).1)).1) (by omega) (by omega)
  have na2 : ¬ (mkS l2 ((mkB l1_0 ((mkB l0_1 ((mkS l0_0 (1)).1)).1)).1)).1 < 0 := by omega
  have emr0 := markState_ev r0_0 r0_1 (1) s0_0
  have bmr0_0 := mkB_bound r0_0 (1) (by omega) (by omega)
  have nr0_0 : ¬ (mkB r0_0 (1)).1 < 0 := by omega
  have eh0 := heldState_ev r0_0 r0_1 (1) (by omega) (by omega) s0_0
  clear bma0_0 bma0_1 bma1_0 bma2 bmr0_0
  obtain ⟨Khu0, fhu0⟩ := hu0
  obtain ⟨Khu1, fhu1⟩ := hu1
  obtain ⟨Ket0, fet0⟩ := et0
  obtain ⟨Ket1, fet1⟩ := et1
  obtain ⟨Ket2, fet2⟩ := et2
  obtain ⟨Kes, fes⟩ := es
  obtain ⟨Kei, fei⟩ := ei
  obtain ⟨Keq0, feq0⟩ := eq0
  obtain ⟨Kea0, fea0⟩ := ea0
  obtain ⟨Kea1, fea1⟩ := ea1
  obtain ⟨Kea2, fea2⟩ := ea2
  obtain ⟨Kema0, fema0⟩ := ema0
  obtain ⟨Kema1, fema1⟩ := ema1
  obtain ⟨Kema2, fema2⟩ := ema2
  obtain ⟨Kemr0, femr0⟩ := emr0
  obtain ⟨Keh0, feh0⟩ := eh0
  exact FnExactRideWithCrew_walk _ _ _ _ _ _ _ _ _ _ _ _ _ _ _ _ _ _ _ _ _ _ _ _ _ _ _ _ Ket0 Ket1 Ket2 Kes Kei Keq0 Kea0 Kea1 Kea2 Kema0 Kema1 Kema2 Kemr0 Keh0 w hr0_0 hc0_0 hr0_1 hc0_1 hr1_0 hc1_0 hr2 hc2 z2 (fhu0 _ (Nat.le_refl _)) nu0 (fhu1 _ (Nat.le_refl _)) nu1 (fet0 _ (Nat.le_refl _)) (fet1 _ (Nat.le_refl _)) (fet2 _ (Nat.le_refl _)) (fes _ (Nat.le_refl _)) (fei _ (Nat.le_refl _)) (feq0 _ (Nat.le_refl _)) (fea0 _ (Nat.le_refl _)) (fea1 _ (Nat.le_refl _)) (fea2 _ (Nat.le_refl _)) (fema0 _ (Nat.le_refl _)) (fema1 _ (Nat.le_refl _)) (fema2 _ (Nat.le_refl _)) na2 (femr0 _ (Nat.le_refl _)) (feh0 _ (Nat.le_refl _)) nr0_0
end Go.Proofs.Ytikjdmiohpdnaaa.Pure
