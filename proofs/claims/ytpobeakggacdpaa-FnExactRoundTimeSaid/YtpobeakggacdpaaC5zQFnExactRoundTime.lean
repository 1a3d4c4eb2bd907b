import Derived.Test.YtpobeakggacdpaaC5zx0
import Derived.Test.YtpobeakggacdpaaC5zx1
import Derived.Test.YtpobeakggacdpaaC5zx2
import Derived.Test.YtpobeakggacdpaaC5zx3
import Derived.Test.YtpobeakggacdpaaC5zx4
import Derived.Test.YtpobeakggacdpaaC5zx5
import Derived.Test.YtpobeakggacdpaaC5zH0
import Derived.Test.YtpobeakggacdpaaC5zH1
import Derived.Test.YtpobeakggacdpaaC5zQ0
import Derived.Test.YtpobeakggacdpaaC5zQ1
import Derived.Test.YtpobeakggacdpaaC5zQ2
import Derived.Test.YtpobeakggacdpaaC5zQ3
import Derived.Test.YtpobeakggacdpaaC5zQ4
import Derived.Test.YtpobeakggacdpaaC5zQ5
namespace Go.Proofs.Ytpobeakggacdpaa.Pure
open Go.RowKit Go.Proofs.Ytpobeakggacdpaa.C5 Go.Proofs.Ytpobeakggacdpaa.H Go.Proofs.YtpobeakggacdpaaW.PrintWords Go.Proofs.YtpobeakggacdpaaW.PrintLast Go.Proofs.YtpobeakggacdpaaW.PrintMore
set_option linter.unusedVariables false
set_option linter.unusedSimpArgs false
def FnExactRoundTime_val (l : List Int) (s t : Int) (R : List (List Int)) : Int × Bool := if goodN l s t && grpP l.length s t R then (rT l R 0, true) else (0, false)
theorem rtime_loop (l : List Int) (s t : Int) (X : List (List Int)) (hl : l.length ≤ 1048576) (V : Int) : ∀ (r q : List (List Int)) (p : List Int), (rOk l.length s (some p) r = true → Ev (fun k => impl_Night_roundTime.f k l s t X) V) → X = q ++ p :: r → X.length ≤ 1048576 → (∀ g ∈ r, g.length ≤ 1048576) → Ev (fun k => impl_RoundTime.l0 k X X (X.length : Int) ((q.length : Int) + 1) l s t) (if rOk l.length s (some p) r then (V, true) else (0, false)) := by
  intro r
  induction r with
  | nil =>
    intro q p hV e hX hr
    refine Ev.step (f := fun k => (impl_Night_roundTime.f k l s t X).bind fun t491 => (some (t491, true))) (fun k => ?_) (Ev.bind (hV rfl) (Ev.now _))
    simp only [impl_RoundTime.l0]
    rw [if_neg (by rw [e]; simp)]
  | cons g r ih =>
    intro q p hV e hX hr
    have hlen : X.length = q.length + 1 + 1 + r.length := by rw [e]; simp; omega
    have hg := hr g (by simp)
    have r1 : rd_L1 X ((q.length : Int) + 1) = g := by rw [e]; exact rd_L2_mid1 q p g r
    have r0 : rd_L1 X (q.length : Int) = p := by rw [e]; exact rd_L2_mid q p (g :: r)
    obtain ⟨K1, e1⟩ := isGroup_ev l s t g hl hg
    dsimp only at e1
    cases ht : tripP l.length s g with
    | false =>
      have hR : rOk l.length s (some p) (g :: r) = false := by simp only [rOk, ht, Bool.false_and]
      refine ⟨K1 + 1, fun k hk => ?_⟩
      obtain ⟨k, rfl⟩ : ∃ j, k = j + 1 := ⟨k - 1, by omega⟩
      simp only [impl_RoundTime.l0]
      rw [if_pos (by omega), if_pos (by omega), if_pos (by omega), r1, e1 k (by omega), ht, Option.bind_some, if_neg (by simp), hR, if_neg (by simp)]
    | true =>
      cases hs : shareP p g with
      | true =>
        have hR : rOk l.length s (some p) (g :: r) = false := by simp only [rOk, hs, Bool.not_true, Bool.false_and, Bool.and_false]
        rw [hR]
        refine ⟨K1 + 1, fun k hk => ?_⟩
        obtain ⟨k, rfl⟩ : ∃ j, k = j + 1 := ⟨k - 1, by omega⟩
        simp only [impl_RoundTime.l0]
        rw [if_pos (by omega), if_pos (by omega), if_pos (by omega), r1, e1 k (by omega), ht, Option.bind_some, if_pos rfl, if_pos (by omega), wr_pred' q.length (by omega), if_pos (zle _), if_pos (by omega), r0, share_eq, hs, Option.bind_some, if_pos rfl, if_neg (by simp)]
      | false =>
        obtain ⟨K2, e2⟩ := ih (q ++ [p]) g (fun h => hV (by simp only [rOk, ht, hs, h]; rfl)) (by rw [e]; simp) hX (fun y hy => hr y (by simp [hy]))
        dsimp only at e2
        have hR : rOk l.length s (some p) (g :: r) = rOk l.length s (some g) r := by simp only [rOk, ht, hs, Bool.not_false, Bool.true_and]
        rw [hR]
        refine ⟨K1 + K2 + 1, fun k hk => ?_⟩
        obtain ⟨k, rfl⟩ : ∃ j, k = j + 1 := ⟨k - 1, by omega⟩
        have e3 := e2 k (by omega)
        simp only [impl_RoundTime.l0]
        rw [if_pos (by omega), if_pos (by omega), if_pos (by omega), r1, e1 k (by omega), ht, Option.bind_some, if_pos rfl, if_pos (by omega), wr_pred' q.length (by omega), if_pos (zle _), if_pos (by omega), r0, share_eq, hs, Option.bind_some, if_neg (by simp), wr_id (by omega) (by omega)]
        simpa using e3
theorem rtime_all (l : List Int) (s t : Int) (X : List (List Int)) (hl : l.length ≤ 1048576) (V : Int) (hV : rOk l.length s none X = true → Ev (fun k => impl_Night_roundTime.f k l s t X) V) (hX : X.length ≤ 1048576) (hr : ∀ g ∈ X, g.length ≤ 1048576) : Ev (fun k => impl_RoundTime.l0 k X X (X.length : Int) 0 l s t) (if rOk l.length s none X then (V, true) else (0, false)) := by
  cases X with
  | nil =>
    refine Ev.step (f := fun k => (impl_Night_roundTime.f k l s t []).bind fun t491 => (some (t491, true))) (fun k => ?_) (Ev.bind (hV rfl) (Ev.now _))
    simp only [impl_RoundTime.l0]
    rw [if_neg (by simp)]
  | cons g r =>
    have hg := hr g (by simp)
    have h1 : (0 : Int) < ((g :: r).length : Int) := by simp only [List.length_cons]; omega
    obtain ⟨K1, e1⟩ := isGroup_ev l s t g hl hg
    dsimp only at e1
    have r0 : rd_L1 (g :: r) 0 = g := rfl
    cases ht : tripP l.length s g with
    | false =>
      have hR : rOk l.length s none (g :: r) = false := by simp only [rOk, ht, Bool.false_and]
      refine ⟨K1 + 1, fun k hk => ?_⟩
      obtain ⟨k, rfl⟩ : ∃ j, k = j + 1 := ⟨k - 1, by omega⟩
      simp only [impl_RoundTime.l0]
      rw [if_pos h1, if_pos (Int.le_refl _), if_pos h1, r0, e1 k (by omega), ht, Option.bind_some, if_neg (by simp), hR, if_neg (by simp)]
    | true =>
      obtain ⟨K2, e2⟩ := rtime_loop l s t (g :: r) hl V r [] g (fun h => hV (by simp only [rOk, ht, h]; rfl)) rfl hX (fun y hy => hr y (by simp [hy]))
      dsimp only at e2
      have hR : rOk l.length s none (g :: r) = rOk l.length s (some g) r := by simp only [rOk, ht, Bool.true_and]
      rw [hR]
      refine ⟨K1 + K2 + 1, fun k hk => ?_⟩
      obtain ⟨k, rfl⟩ : ∃ j, k = j + 1 := ⟨k - 1, by omega⟩
      have e3 := e2 k (by omega)
      simp only [impl_RoundTime.l0]
      rw [if_pos h1, if_pos (Int.le_refl _), if_pos h1, r0, e1 k (by omega), ht, Option.bind_some, if_pos rfl, if_neg (by omega), wr_id (by omega) (by omega)]
      simpa using e3
theorem grpP_in {n : Nat} {s t : Int} {R : List (List Int)} (h : grpP n s t R = true) : ∀ g ∈ R, ∀ x ∈ g, 0 ≤ x ∧ x < (n : Int) := by
  unfold grpP at h
  simp only [Bool.and_eq_true] at h
  intro g hg
  exact tripP_in (gOk_in R 0 h.2 g hg)
theorem spec_FnExactRoundTime_ev (l : List Int) (s t : Int) (R : List (List Int)) (hl : l.length ≤ 1048576) (hn : n2 R ≤ 1048576) : Ev (fun k => spec_RoundTime.f k l s t R) (FnExactRoundTime_val l s t R) := by
  obtain ⟨hn1, hn2⟩ := szSum_bound List.length R (by simpa only [n2] using hn)
  unfold spec_RoundTime.f FnExactRoundTime_val
  refine Ev.bind (toGood_ev l s t hl) ?_
  cases hg : goodN l s t with
  | false => exact Ev.now _
  | true =>
    have h6 := goodN_len hg
    simp only [if_true, Bool.true_and]
    refine Ev.bind (toGroups_ev l s t R (by omega) hn1 hn2) ?_
    cases hp : grpP l.length s t R with
    | false => exact Ev.now _
    | true =>
      simp only [if_true]
      exact Ev.bind (g := fun k => spec_toTime.f k l s t R) (toTime_loop l s t R [] 0 (Int.le_refl _) (by simpa using hn1) hn2 (grpP_in hp)) (Ev.now _)
theorem impl_FnExactRoundTime_ev (l : List Int) (s t : Int) (R : List (List Int)) (hl : l.length ≤ 1048576) (hn : n2 R ≤ 1048576) : Ev (fun k => impl_RoundTime.f k l s t R) (FnExactRoundTime_val l s t R) := by
  obtain ⟨hn1, hn2⟩ := szSum_bound List.length R (by simpa only [n2] using hn)
  unfold impl_RoundTime.f FnExactRoundTime_val
  refine Ev.bind (ev_some (isNight_eq l s t)) ?_
  cases hg : goodN l s t with
  | false =>
    simp only [Bool.false_eq_true, if_false]
    refine Ev.step (fun k => impl_RoundTime.j0.eq_2 ..) ?_
    exact Ev.now _
  | true =>
    have h6 := goodN_len hg
    simp only [if_true, Bool.true_and]
    refine Ev.bind (ev_some (in_eq _ _ _)) ?_
    refine Ev.step (fun k => impl_RoundTime.j0.eq_2 ..) ?_
    unfold grpP
    cases hi : inB 1 t (R.length : Int) with
    | false => exact Ev.now _
    | true =>
      have h2 : R.length ≤ 2 := by
        simp only [inB, Bool.and_eq_true, decide_eq_true_eq] at hi
        omega
      simp only [Bool.not_true, Bool.false_eq_true, if_false, Bool.true_and]
      rw [gOk_rOk _ _ _ h2]
      refine ev_eq (rtime_all l s t R hl (rT l R 0) (fun ho => roundTime_loop l s t R [] 0 (by simpa using hn1) hn2 (fun g hg => tripP_in (gOk_in R 0 (by rw [gOk_rOk _ _ _ h2]; exact ho) g hg))) hn1 hn2) rfl
theorem FnExactRoundTime_small (l : List Int) (s t : Int) (R : List (List Int)) (hl : l.length ≤ 1048576) (hn : n2 R ≤ 1048576) : True := trivial
theorem FnExactRoundTime_pure : ∀ (l0_0 : List Int) (a0_1 : Int) (a0_2 : Int) (l1 : List (List Int)), goodL goodI l0_0 → goodI a0_1 → goodI a0_2 → goodL (goodL goodI) l1 → ∃ k, laws_FnExactRoundTime.f k l0_0 a0_1 a0_2 l1 = some true := by
  intro l0_0 a0_1 a0_2 l1 g0_0 g0_1 g0_2 g1
  obtain ⟨u0, hu0, hc⟩ := szNight_cases l0_0 a0_1 a0_2 1048576 (by omega) (by omega) g0_0.1
  replace hu0 := ev_some hu0
  rcases hc with hc | ⟨b0, d0⟩
  · refine Ev.rounds ?_
    unfold laws_FnExactRoundTime.f
    repeat (first | exact Ev.now _ | (refine Ev.bind (by assumption) ?_; try dsimp only) | (simp only [hc, if_true, if_false, bne_self_eq_false, Bool.false_eq_true]) | refine Ev.step (fun k => laws_FnExactRoundTime.j0.eq_2 ..) ?_ | refine Ev.step (fun k => laws_FnExactRoundTime.j1.eq_2 ..) ?_ | refine Ev.step (fun k => laws_FnExactRoundTime.j2.eq_2 ..) ?_ | refine Ev.step (fun k => laws_FnExactRoundTime.j3.eq_2 ..) ?_ | refine Ev.step (fun k => laws_FnExactRoundTime.j4.eq_2 ..) ?_)
  have nu0 : ¬ u0 < 0 := by omega
  obtain ⟨u1, hu1, hc⟩ := szIntSS_cases l1 u0 b0 (by omega) (good2 g1)
  rcases hc with hc | ⟨b1, d1⟩
  · refine Ev.rounds ?_
    unfold laws_FnExactRoundTime.f
    repeat (first | exact Ev.now _ | (refine Ev.bind (by assumption) ?_; try dsimp only) | (simp only [hc, nu0, if_true, if_false, bne_self_eq_false, Bool.false_eq_true]) | refine Ev.step (fun k => laws_FnExactRoundTime.j0.eq_2 ..) ?_ | refine Ev.step (fun k => laws_FnExactRoundTime.j1.eq_2 ..) ?_ | refine Ev.step (fun k => laws_FnExactRoundTime.j2.eq_2 ..) ?_ | refine Ev.step (fun k => laws_FnExactRoundTime.j3.eq_2 ..) ?_ | refine Ev.step (fun k => laws_FnExactRoundTime.j4.eq_2 ..) ?_)
  have nu1 : ¬ u1 < 0 := by omega
  have z0_0 : List.length l0_0 ≤ 1048576 := by omega
  have z1 : n2 l1 ≤ 1048576 := by omega
  have et0 := toNight_ev l0_0 a0_1 a0_2 z0_0
  have et1 := toIntSS_ev l1 z1
  have es := spec_FnExactRoundTime_ev l0_0 a0_1 a0_2 l1 z0_0 z1
  have ei := impl_FnExactRoundTime_ev l0_0 a0_1 a0_2 l1 z0_0 z1
  have hsm := FnExactRoundTime_small l0_0 a0_1 a0_2 l1 z0_0 z1
  generalize FnExactRoundTime_val l0_0 a0_1 a0_2 l1 = rr at *
  obtain ⟨r0, r1⟩ := rr
  have ea0 : Ev (fun k => laws_eqNight.f k l0_0 a0_1 a0_2 l0_0 a0_1 a0_2) true := ev_eq (eqNight_ev l0_0 a0_1 a0_2 l0_0 a0_1 a0_2 z0_0) (decide_eq_true rfl)
  have ea1 : Ev (fun k => laws_eqIntSS.f k l1 l1) true := ev_eq (eqIntSS_ev l1 l1 z1) (decide_eq_true rfl)
  refine Ev.rounds ?_
  unfold laws_FnExactRoundTime.f
  repeat (first | exact Ev.now _ | (refine Ev.bind (by assumption) ?_; try dsimp only) | (simp only [nu0, nu1, if_true, if_false, bne_self_eq_false, Bool.false_eq_true]) | refine Ev.step (fun k => laws_FnExactRoundTime.j0.eq_2 ..) ?_ | refine Ev.step (fun k => laws_FnExactRoundTime.j1.eq_2 ..) ?_ | refine Ev.step (fun k => laws_FnExactRoundTime.j2.eq_2 ..) ?_ | refine Ev.step (fun k => laws_FnExactRoundTime.j3.eq_2 ..) ?_ | refine Ev.step (fun k => laws_FnExactRoundTime.j4.eq_2 ..) ?_)
end Go.Proofs.Ytpobeakggacdpaa.Pure
