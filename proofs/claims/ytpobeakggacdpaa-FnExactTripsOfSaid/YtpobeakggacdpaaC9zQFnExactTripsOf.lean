import Derived.Test.YtpobeakggacdpaaC9zx0
import Derived.Test.YtpobeakggacdpaaC9zx1
import Derived.Test.YtpobeakggacdpaaC9zx3
import Derived.Test.YtpobeakggacdpaaC9zx4
import Derived.Test.YtpobeakggacdpaaC9zx5
import Derived.Test.YtpobeakggacdpaaC9zH0
import Derived.Test.YtpobeakggacdpaaC9zH1
import Derived.Test.YtpobeakggacdpaaC9zQ0
import Derived.Test.YtpobeakggacdpaaC9zQ1
import Derived.Test.YtpobeakggacdpaaC9zQ2
import Derived.Test.YtpobeakggacdpaaC9zQ3
import Derived.Test.YtpobeakggacdpaaC9zQ4
import Derived.Test.YtpobeakggacdpaaC9zQS
import Derived.Test.YtpobeakggacdpaaC9zQG
import Derived.Test.YtpobeakggacdpaaC9zH2
import Derived.Test.YtpobeakggacdpaaC9zS
namespace Go.Proofs.Ytpobeakggacdpaa.Pure
open Go.Proofs.Ytpobeakggacdpaa.Walk Go.RowKit Go.Proofs.Ytpobeakggacdpaa.C9 Go.Proofs.Ytpobeakggacdpaa.H Go.Proofs.YtpobeakggacdpaaW.PrintWords Go.Proofs.YtpobeakggacdpaaW.PrintLast Go.Proofs.YtpobeakggacdpaaW.PrintMore
set_option linter.unusedVariables false
set_option linter.unusedSimpArgs false
def FnExactTripsOf_val (l : List Int) (s : Int) (st : List Bool) (b : Bool) : List (List Int) × Bool := if goodP l s && stateP l.length st b then (tripsP s st b, true) else ([], false)
theorem goodP_seats {l : List Int} {s : Int} (h : goodP l s = true) : 1 ≤ s ∧ s ≤ 3 := by
  unfold goodP at h
  simp only [Bool.and_eq_true, inB, decide_eq_true_eq] at h
  omega
theorem spec_FnExactTripsOf_ev (l : List Int) (s : Int) (st : List Bool) (b : Bool) (hl : l.length ≤ 1048576) (hs : st.length ≤ 1048576) : Ev (fun k => spec_TripsOf.f k l s st b) (FnExactTripsOf_val l s st b) := by
  unfold spec_TripsOf.f FnExactTripsOf_val
  refine Ev.bind (paAsked_ev l s st b hl hs) ?_
  cases hq : (goodP l s && stateP l.length st b) with
  | false => exact Ev.now _
  | true =>
    simp only [Bool.and_eq_true] at hq
    have h1 := goodP_len hq.1
    have h2 := stateP_len hq.2
    simp only [if_true]
    exact Ev.bind (paTrips_ev l s st b (goodP_seats hq.1).1 (by omega)) (Ev.now _)
theorem impl_FnExactTripsOf_ev (l : List Int) (s : Int) (st : List Bool) (b : Bool) (hl : l.length ≤ 1048576) (hs : st.length ≤ 1048576) : Ev (fun k => impl_TripsOf.f k l s st b) (FnExactTripsOf_val l s st b) := by
  unfold impl_TripsOf.f FnExactTripsOf_val
  refine Ev.bind (hasStateP_ev l s st b hs) ?_
  cases hq : (goodP l s && stateP l.length st b) with
  | false => exact Ev.now _
  | true =>
    simp only [Bool.and_eq_true] at hq
    have h1 := goodP_len hq.1
    have h2 := stateP_len hq.2
    have h3 := sideP_len b st 0
    simp only [if_true]
    refine Ev.bind (side_ev st b b hs) ?_
    simp only [if_pos (show (sideP b st 0).length ≤ 20 by omega)]
    exact Ev.now _
theorem FnExactTripsOf_small (l : List Int) (s : Int) (st : List Bool) (b : Bool) (hl : l.length ≤ 1048576) (hs : st.length ≤ 1048576) : n2 (FnExactTripsOf_val l s st b).1 ≤ 1048576 := by
  unfold FnExactTripsOf_val
  split
  · rename_i hq
    simp only [Bool.and_eq_true] at hq
    have h1 := goodP_len hq.1
    have h2 := stateP_len hq.2
    have h3 := sideP_len b st 0
    have h4 := grpsF_len s (sideP b st 0) []
    have h5 := n2_le 8 (tripsP s st b) (fun g hg => by have := grpsF_elem s _ _ g hg; simp at this; omega)
    have h6 : 2 ^ (sideP b st 0).length ≤ 2 ^ 8 := Nat.pow_le_pow_right (by omega) (by omega)
    unfold tripsP at h5 ⊢
    simp only at h5 ⊢
    omega
  · simp [n2, szSum]
theorem FnExactTripsOf_all (A0_0 : Option Addr) (c0_0 : Nat) (l0_0 : List Int) (a0_1 : Int) (A1_0 : Option Addr) (c1_0 : Nat) (l1_0 : List Bool) (a1_1 : Bool) (w : World) (hr0_0 : Kd.C (Kd.int .i64) w A0_0 l0_0.length l0_0) (hc0_0 : l0_0.length ≤ c0_0) (hr1_0 : Kd.C Kd.bool w A1_0 l1_0.length l1_0) (hc1_0 : l1_0.length ≤ c1_0) (g0_0 : goodL goodI l0_0) (g0_1 : goodI a0_1) (g1_0 : goodL (fun _ => True) l1_0) :
    Calls Try.prog 10 #[.agg #[.slice A0_0 l0_0.length c0_0, .int .i64 a0_1], .agg #[.slice A1_0 l1_0.length c1_0, .bool a1_1]] w fun e w' => e = .returned (.bool true) ∧ Below w.heap.size w w' := by
  obtain ⟨u0, hu0, hc⟩ := szParty_cases l0_0 a0_1 1048576 (by omega) (by omega) g0_0.1
  replace hu0 := ev_some hu0
  rcases hc with hc | ⟨b0, d0⟩
  · obtain ⟨Kx, fx⟩ := hu0
    exact FnExactTripsOf_short0 _ _ _ _ _ _ _ _ w hr0_0 hc0_0 hr1_0 hc1_0  _ (fx _ (Nat.le_refl _)) hc
  have nu0 : ¬ u0 < 0 := by omega
  obtain ⟨u1, hu1, hc⟩ := szState_cases l1_0 a1_1 u0 b0 (by omega) g1_0.1
  replace hu1 := ev_some hu1
  rcases hc with hc | ⟨b1, d1⟩
  · obtain ⟨Ky0, fy0⟩ := hu0
    obtain ⟨Kx, fx⟩ := hu1
    exact FnExactTripsOf_short1 _ _ _ _ _ _ _ _ w hr0_0 hc0_0 hr1_0 hc1_0 _ (fy0 _ (Nat.le_refl _)) nu0 _ (fx _ (Nat.le_refl _)) hc
  have nu1 : ¬ u1 < 0 := by omega
  have z0_0 : List.length l0_0 ≤ 1048576 := by omega
  have z1_0 : List.length l1_0 ≤ 1048576 := by omega
  have et0 := toParty_ev l0_0 a0_1 z0_0
  have et1 := toState_ev l1_0 a1_1 z1_0
  have es := spec_FnExactTripsOf_ev l0_0 a0_1 l1_0 a1_1 z0_0 z1_0
  have ei := impl_FnExactTripsOf_ev l0_0 a0_1 l1_0 a1_1 z0_0 z1_0
  have hsm := FnExactTripsOf_small l0_0 a0_1 l1_0 a1_1 z0_0 z1_0
  generalize FnExactTripsOf_val l0_0 a0_1 l1_0 a1_1 = rr at *
  obtain ⟨r0, r1⟩ := rr
  dsimp only at hsm
  have s0 := hsm
  have eq0 : Ev (fun k => laws_eqIntSS.f k r0 r0) true := ev_eq (eqIntSS_ev r0 r0 s0) (decide_eq_true rfl)
  have ea0 : Ev (fun k => laws_eqParty.f k l0_0 a0_1 l0_0 a0_1) true := ev_eq (eqParty_ev l0_0 a0_1 l0_0 a0_1 z0_0) (decide_eq_true rfl)
  have ea1 : Ev (fun k => laws_eqState.f k l1_0 a1_1 l1_0 a1_1) true := ev_eq (eqState_ev l1_0 a1_1 l1_0 a1_1 z1_0) (decide_eq_true rfl)
  have ema0 := markParty_ev l0_0 a0_1 (1) z0_0
  have bma0_0 := mkS_bound l0_0 (1) (by omega) (by omega)
  have na0_0 : ¬ (mkS l0_0 (1)).1 < 0 := by omega
  have ema1 := markState_ev l1_0 a1_1 ((mkS l0_0 (1)).1) z1_0
  have bma1_0 := mkB_bound l1_0 ((mkS l0_0 (1)).1) (by omega) (by omega)
  have na1_0 : ¬ (mkB l1_0 ((mkS l0_0 (1)).1)).1 < 0 := by omega
  have emr0 := ev_some (markIntSS_ev r0 (1))
  have bmr0 := mkSS_bound r0 (1) (by omega) (by omega)
  have nr0 : ¬ (mkSS r0 (1)).1 < 0 := by omega
  have eh0 := heldIntSS_ev r0 (1) (by omega) (by omega) s0
  clear bma0_0 bma1_0 bmr0
  obtain ⟨Khu0, fhu0⟩ := hu0
  obtain ⟨Khu1, fhu1⟩ := hu1
  obtain ⟨Ket0, fet0⟩ := et0
  obtain ⟨Ket1, fet1⟩ := et1
  obtain ⟨Kes, fes⟩ := es
  obtain ⟨Kei, fei⟩ := ei
  obtain ⟨Keq0, feq0⟩ := eq0
  obtain ⟨Kea0, fea0⟩ := ea0
  obtain ⟨Kea1, fea1⟩ := ea1
  obtain ⟨Kema0, fema0⟩ := ema0
  obtain ⟨Kema1, fema1⟩ := ema1
  obtain ⟨Kemr0, femr0⟩ := emr0
  obtain ⟨Keh0, feh0⟩ := eh0
  exact FnExactTripsOf_walk _ _ _ _ _ _ _ _ _ _ _ _ _ _ _ _ _ _ Ket0 Ket1 Kes Kei Keq0 Kea0 Kea1 Kema0 Kema1 Keh0 w hr0_0 hc0_0 hr1_0 hc1_0  (fhu0 _ (Nat.le_refl _)) nu0 (fhu1 _ (Nat.le_refl _)) nu1 (fet0 _ (Nat.le_refl _)) (fet1 _ (Nat.le_refl _)) (fes _ (Nat.le_refl _)) (fei _ (Nat.le_refl _)) (feq0 _ (Nat.le_refl _)) (fea0 _ (Nat.le_refl _)) (fea1 _ (Nat.le_refl _)) (fema0 _ (Nat.le_refl _)) (fema1 _ (Nat.le_refl _)) na1_0 (femr0 _ (Nat.le_refl _)) (feh0 _ (Nat.le_refl _)) nr0
end Go.Proofs.Ytpobeakggacdpaa.Pure
