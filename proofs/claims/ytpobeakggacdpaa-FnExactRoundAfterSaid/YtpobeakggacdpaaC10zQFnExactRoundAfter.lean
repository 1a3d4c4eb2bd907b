import Derived.Test.YtpobeakggacdpaaC10zx0
import Derived.Test.YtpobeakggacdpaaC10zx1
import Derived.Test.YtpobeakggacdpaaC10zx13
import Derived.Test.YtpobeakggacdpaaC10zx2
import Derived.Test.YtpobeakggacdpaaC10zx7
import Derived.Test.YtpobeakggacdpaaC10zH0
import Derived.Test.YtpobeakggacdpaaC10zH1
import Derived.Test.YtpobeakggacdpaaC10zQ0
import Derived.Test.YtpobeakggacdpaaC10zQ1
import Derived.Test.YtpobeakggacdpaaC10zQ2
import Derived.Test.YtpobeakggacdpaaC10zQ3
import Derived.Test.YtpobeakggacdpaaC10zQ4
import Derived.Test.YtpobeakggacdpaaC10zQ5
import Derived.Test.YtpobeakggacdpaaC10zQ6
import Derived.Test.YtpobeakggacdpaaC10zQ7
import Derived.Test.YtpobeakggacdpaaC10zH2
import Derived.Test.YtpobeakggacdpaaC10zS
namespace Go.Proofs.Ytpobeakggacdpaa.Pure
open Go.Proofs.Ytpobeakggacdpaa.Walk Go.RowKit Go.Proofs.Ytpobeakggacdpaa.C10 Go.Proofs.Ytpobeakggacdpaa.H Go.Proofs.YtpobeakggacdpaaW.PrintWords Go.Proofs.YtpobeakggacdpaaW.PrintLast Go.Proofs.YtpobeakggacdpaaW.PrintMore
set_option linter.unusedVariables false
set_option linter.unusedSimpArgs false
def FnExactRoundAfter_val (l : List Int) (s t : Int) (ov : List Bool) (c : Int) (R : List (List Int)) : List Bool × Int × Bool := if campP l s t ov c && roundP l.length s t ov c R then (aft ov R ov, aftT ov R c, true) else ([], 0, false)
theorem spec_FnExactRoundAfter_ev (l : List Int) (s t : Int) (ov : List Bool) (c : Int) (R : List (List Int)) (hl : l.length ≤ 1048576) (ho : ov.length ≤ 1048576) (hn : n2 R ≤ 1048576) : Ev (fun k => spec_RoundAfter.f k l s t ov c R) (FnExactRoundAfter_val l s t ov c R) := by
  obtain ⟨hn1, hn2⟩ := szSum_bound List.length R (by simpa only [n2] using hn)
  unfold spec_RoundAfter.f FnExactRoundAfter_val
  refine Ev.bind (toCampG_ev l s t ov c hl) ?_
  cases hg : campP l s t ov c with
  | false => exact Ev.now _
  | true =>
    obtain ⟨h1, h2, h3⟩ := campP_in hg
    have h6 := goodN_len h1
    simp only [if_true, Bool.true_and]
    refine Ev.bind (toCan_ev l s t ov c R (by omega) h2 hn1 hn2 ⟨h6.2.2, h6.2.1⟩ h3) ?_
    cases hr : roundP l.length s t ov c R with
    | false => exact Ev.now _
    | true =>
      simp only [if_true]
      exact Ev.bind (toAfter_ev ov c R ho hn1 (round_gs hr h2 hn2)) (Ev.now _)
theorem impl_FnExactRoundAfter_ev (l : List Int) (s t : Int) (ov : List Bool) (c : Int) (R : List (List Int)) (hl : l.length ≤ 1048576) (ho : ov.length ≤ 1048576) (hn : n2 R ≤ 1048576) : Ev (fun k => impl_RoundAfter.f k l s t ov c R) (FnExactRoundAfter_val l s t ov c R) := by
  obtain ⟨hn1, hn2⟩ := szSum_bound List.length R (by simpa only [n2] using hn)
  unfold impl_RoundAfter.f FnExactRoundAfter_val
  refine Ev.bind (ev_some (isCamp_eq l s t ov c)) ?_
  cases hg : campP l s t ov c with
  | false => exact Ev.now _
  | true =>
    obtain ⟨h1, h2, h3⟩ := campP_in hg
    simp only [if_true, Bool.true_and]
    refine Ev.bind (isRound_ev l s t ov c R hl h2 hn1 hn2) ?_
    cases hr : roundP l.length s t ov c R with
    | false => exact Ev.now _
    | true =>
      simp only [if_true]
      exact Ev.bind (after_ev ov c R ho hn1 (round_gs hr h2 hn2)) (Ev.now _)
theorem FnExactRoundAfter_small (l : List Int) (s t : Int) (ov : List Bool) (c : Int) (R : List (List Int)) (hl : l.length ≤ 1048576) (ho : ov.length ≤ 1048576) (hn : n2 R ≤ 1048576) : (FnExactRoundAfter_val l s t ov c R).1.length ≤ 1048576 := by
  unfold FnExactRoundAfter_val
  split
  · simpa [aft_len] using ho
  · simp
theorem FnExactRoundAfter_all (A0_0 : Option Addr) (c0_0 : Nat) (l0_0 : List Int) (a0_1 : Int) (a0_2 : Int) (A1_0 : Option Addr) (c1_0 : Nat) (l1_0 : List Bool) (a1_1 : Int) (A2 : Option Addr) (c2 : Nat) (l2 : List (List Int)) (w : World) (hr0_0 : Kd.C (Kd.int .i64) w A0_0 l0_0.length l0_0) (hc0_0 : l0_0.length ≤ c0_0) (hr1_0 : Kd.C Kd.bool w A1_0 l1_0.length l1_0) (hc1_0 : l1_0.length ≤ c1_0) (hr2 : Kd.C (Kd.slice 3 (Kd.int .i64)) w A2 l2.length l2) (hc2 : l2.length ≤ c2) (g0_0 : goodL goodI l0_0) (g0_1 : goodI a0_1) (g0_2 : goodI a0_2) (g1_0 : goodL (fun _ => True) l1_0) (g1_1 : goodI a1_1) (g2 : goodL (goodL goodI) l2) :
    Calls Try.prog 7 #[.agg #[.slice A0_0 l0_0.length c0_0, .int .i64 a0_1, .int .i64 a0_2], .agg #[.slice A1_0 l1_0.length c1_0, .int .i64 a1_1], .slice A2 l2.length c2] w fun e w' => e = .returned (.bool true) ∧ Below w.heap.size w w' := by
  obtain ⟨u0, hu0, hc⟩ := szNight_cases l0_0 a0_1 a0_2 1048576 (by omega) (by omega) g0_0.1
  replace hu0 := ev_some hu0
  rcases hc with hc | ⟨b0, d0⟩
  · obtain ⟨Kx, fx⟩ := hu0
    exact FnExactRoundAfter_short0 _ _ _ _ _ _ _ _ _ _ _ _ w hr0_0 hc0_0 hr1_0 hc1_0 hr2 hc2  _ (fx _ (Nat.le_refl _)) hc
  have nu0 : ¬ u0 < 0 := by omega
  obtain ⟨u1, hu1, hc⟩ := szCamp_cases l1_0 a1_1 u0 b0 (by omega) g1_0.1
  replace hu1 := ev_some hu1
  rcases hc with hc | ⟨b1, d1⟩
  · obtain ⟨Ky0, fy0⟩ := hu0
    obtain ⟨Kx, fx⟩ := hu1
    exact FnExactRoundAfter_short1 _ _ _ _ _ _ _ _ _ _ _ _ w hr0_0 hc0_0 hr1_0 hc1_0 hr2 hc2 _ (fy0 _ (Nat.le_refl _)) nu0 _ (fx _ (Nat.le_refl _)) hc
  have nu1 : ¬ u1 < 0 := by omega
  obtain ⟨u2, hu2, hc⟩ := szIntSS_cases l2 u1 b1 (by omega) (good2 g2)
  rcases hc with hc | ⟨b2, d2⟩
  · obtain ⟨Ky0, fy0⟩ := hu0
    obtain ⟨Ky1, fy1⟩ := hu1
    obtain ⟨Kx, fx⟩ := hu2
    exact FnExactRoundAfter_short2 _ _ _ _ _ _ _ _ _ _ _ _ w hr0_0 hc0_0 hr1_0 hc1_0 hr2 hc2 _ (fy0 _ (Nat.le_refl _)) nu0 _ (fy1 _ (Nat.le_refl _)) nu1 _ _ (fx _ (Nat.le_refl _)) hc
  have nu2 : ¬ u2 < 0 := by omega
  have z0_0 : List.length l0_0 ≤ 1048576 := by omega
  have z1_0 : List.length l1_0 ≤ 1048576 := by omega
  have z2 : n2 l2 ≤ 1048576 := by omega
  have et0 := toNight_ev l0_0 a0_1 a0_2 z0_0
  have et1 := toCamp_ev l1_0 a1_1 z1_0
  have et2 := toIntSS_ev l2 z2
  have es := spec_FnExactRoundAfter_ev l0_0 a0_1 a0_2 l1_0 a1_1 l2 z0_0 z1_0 z2
  have ei := impl_FnExactRoundAfter_ev l0_0 a0_1 a0_2 l1_0 a1_1 l2 z0_0 z1_0 z2
  have hsm := FnExactRoundAfter_small l0_0 a0_1 a0_2 l1_0 a1_1 l2 z0_0 z1_0 z2
  generalize FnExactRoundAfter_val l0_0 a0_1 a0_2 l1_0 a1_1 l2 = rr at *
  obtain ⟨r0_0, r0_1, r1⟩ := rr
  dsimp only at hsm
  have s0_0 := hsm
  have eq0 : Ev (fun k => laws_eqCamp.f k r0_0 r0_1 r0_0 r0_1) true := ev_eq (eqCamp_ev r0_0 r0_1 r0_0 r0_1 s0_0) (decide_eq_true rfl)
  have ea0 : Ev (fun k => laws_eqNight.f k l0_0 a0_1 a0_2 l0_0 a0_1 a0_2) true := ev_eq (eqNight_ev l0_0 a0_1 a0_2 l0_0 a0_1 a0_2 z0_0) (decide_eq_true rfl)
  have ea1 : Ev (fun k => laws_eqCamp.f k l1_0 a1_1 l1_0 a1_1) true := ev_eq (eqCamp_ev l1_0 a1_1 l1_0 a1_1 z1_0) (decide_eq_true rfl)
  have ea2 : Ev (fun k => laws_eqIntSS.f k l2 l2) true := ev_eq (eqIntSS_ev l2 l2 z2) (decide_eq_true rfl)
  have ema0 := markNight_ev l0_0 a0_1 a0_2 (1) z0_0
  have bma0_0 := mkS_bound l0_0 (1) (by omega) (by omega)
  have na0_0 : ¬ (mkS l0_0 (1)).1 < 0 := by omega
  have ema1 := markCamp_ev l1_0 a1_1 ((mkS l0_0 (1)).1) z1_0
  have bma1_0 := mkB_bound l1_0 ((mkS l0_0 (1)).1) (by omega) (by omega)
  have na1_0 : ¬ (mkB l1_0 ((mkS l0_0 (1)).1)).1 < 0 := by omega
  have ema2 := ev_some (markIntSS_ev l2 ((mkB l1_0 ((mkS l0_0 (1)).1)).1))
  have bma2 := mkSS_bound l2 ((mkB l1_0 ((mkS l0_0 (1)).1)).1) (by omega) (by omega)
  have na2 : ¬ (mkSS l2 ((mkB l1_0 ((mkS l0_0 (1)).1)).1)).1 < 0 := by omega
  have emr0 := markCamp_ev r0_0 r0_1 (1) s0_0
  have bmr0_0 := mkB_bound r0_0 (1) (by omega) (by omega)
  have nr0_0 : ¬ (mkB r0_0 (1)).1 < 0 := by omega
  have eh0 := heldCamp_ev r0_0 r0_1 (1) (by omega) (by omega) s0_0
  clear bma0_0 bma1_0 bma2 bmr0_0
  obtain ⟨Khu0, fhu0⟩ := hu0
  obtain ⟨Khu1, fhu1⟩ := hu1
  obtain ⟨Khu2, fhu2⟩ := hu2
  obtain ⟨Ket0, fet0⟩ := et0
  obtain ⟨Ket1, fet1⟩ := et1
  obtain ⟨Ket2, fet2⟩ := et2
  obtain ⟨Kes, fes⟩ := es
  obtain ⟨Kei, fei⟩ := ei
  obtain ⟨Keq0, feq0⟩ := eq0
  obtain ⟨Kea0, fea0⟩ := ea0
  obtain ⟨Kea1, fea1⟩ := ea1
  obtain ⟨Kea2, fea2⟩ := ea2
  obtain ⟨Kema0, fema0⟩ := ema0
  obtain ⟨Kema1, fema1⟩ := ema1
  obtain ⟨Kema2, fema2⟩ := ema2
  obtain ⟨Kemr0, femr0⟩ := emr0
  obtain ⟨Keh0, feh0⟩ := eh0
  exact FnExactRoundAfter_walk _ _ _ _ _ _ _ _ _ _ _ _ _ _ _ _ _ _ _ _ _ _ _ _ _ _ Khu2 Ket0 Ket1 Ket2 Kes Kei Keq0 Kea0 Kea1 Kea2 Kema0 Kema1 Kemr0 Keh0 w hr0_0 hc0_0 hr1_0 hc1_0 hr2 hc2  (fhu0 _ (Nat.le_refl _)) nu0 (fhu1 _ (Nat.le_refl _)) nu1 (fhu2 _ (Nat.le_refl _)) nu2 (fet0 _ (Nat.le_refl _)) (fet1 _ (Nat.le_refl _)) (fet2 _ (Nat.le_refl _)) (fes _ (Nat.le_refl _)) (fei _ (Nat.le_refl _)) (feq0 _ (Nat.le_refl _)) (fea0 _ (Nat.le_refl _)) (fea1 _ (Nat.le_refl _)) (fea2 _ (Nat.le_refl _)) (fema0 _ (Nat.le_refl _)) (fema1 _ (Nat.le_refl _)) (fema2 _ (Nat.le_refl _)) na2 (femr0 _ (Nat.le_refl _)) (feh0 _ (Nat.le_refl _)) nr0_0
end Go.Proofs.Ytpobeakggacdpaa.Pure
