import Derived.Test.YtikjdmiohpdnaaaC2zx0
import Derived.Test.YtikjdmiohpdnaaaC2zx1
import Derived.Test.YtikjdmiohpdnaaaC2zx3
import Derived.Test.YtikjdmiohpdnaaaC2zx4
import Derived.Test.YtikjdmiohpdnaaaC2zx5
import Derived.Test.YtikjdmiohpdnaaaC2zx7
import Derived.Test.YtikjdmiohpdnaaaC2zx8
import Derived.Test.YtikjdmiohpdnaaaC2zx9
import Derived.Test.YtikjdmiohpdnaaaC2zH0
import Derived.Test.YtikjdmiohpdnaaaC2zH1
import Derived.Test.YtikjdmiohpdnaaaC2zQ0
import Derived.Test.YtikjdmiohpdnaaaC2zQ1
import Derived.Test.YtikjdmiohpdnaaaC2zQ2
import Derived.Test.YtikjdmiohpdnaaaC2zQ3
import Derived.Test.YtikjdmiohpdnaaaC2zQ4
import Derived.Test.YtikjdmiohpdnaaaC2zQ5
import Derived.Test.YtikjdmiohpdnaaaC2zQ8
import Derived.Test.YtikjdmiohpdnaaaC2zQ9
namespace Go.Proofs.Ytikjdmiohpdnaaa.Pure
open Go.RowKit Go.Proofs.Ytikjdmiohpdnaaa.C2 Go.Proofs.Ytikjdmiohpdnaaa.H Go.Proofs.YtikjdmiohpdnaaaW.PrintWords Go.Proofs.YtikjdmiohpdnaaaW.PrintLast Go.Proofs.YtikjdmiohpdnaaaW.PrintMore
set_option linter.unusedVariables false
set_option linter.unusedSimpArgs false
def endC (l : List Int) (rw : List Bool) (m : Int) (gs : List (List Int)) (st : List Bool) (b : Bool) : Bool := match playC l rw m gs st b with | none => false | some (o, c) => c && o.all id
def FnExactIsCrewPlan_val (l : List Int) (rw : List Bool) (m : Int) (gs : List (List Int)) : Bool × Bool := if goodC l rw m then (if 40 < gs.length then (false, false) else (endC l rw m gs (List.replicate l.length false) false, true)) else (false, false)
theorem endC_cons (l : List Int) (rw : List Bool) (m : Int) (g : List Int) (gs : List (List Int)) (st : List Bool) (b : Bool) : endC l rw m (g :: gs) st b = if rideC l rw m st b g then endC l rw m gs (mv (!b) g st) (!b) else false := by
  unfold endC
  simp only [playC]
  cases rideC l rw m st b g <;> rfl
theorem spec_cpLoop (l : List Int) (rw : List Bool) (m : Int) (hl : l.length ≤ 7) (hr : rw.length = l.length) : ∀ (r pre : List (List Int)) (st : List Bool) (b : Bool), (pre ++ r).length ≤ 1048576 → (∀ g ∈ r, g.length ≤ 1048576) → st.length = l.length → Ev (fun k => spec_IsCrewPlan.l0 k (pre ++ r) ((pre ++ r).length : Int) (pre.length : Int) l rw m st b) (endC l rw m r st b, true) := by
  intro r
  induction r with
  | nil =>
    intro pre st b hn hg hs
    refine Ev.step (f := fun k => (spec_loParty.f l rw m).bind fun bt379 => ((spec_paLast.f k bt379.1 bt379.2).bind fun bt383 => ((spec_paSame.f k st b bt383.1 bt383.2).bind fun t387 => (some (t387, true))))) (fun k => ?_) (Ev.bind (ev_some (show spec_loParty.f l rw m = some (l, 0) from rfl)) (Ev.bind (g := fun k => spec_paLast.f k l 0) (paLast_loop l l.length 0 [] (by omega) (by omega) rfl) ?_))
    · simp only [spec_IsCrewPlan.l0]
      rw [if_neg (nlt_end pre)]
    · dsimp only
      refine Ev.bind (g := fun k => spec_paSame.f k st b (List.replicate l.length true) true) (paSame_loop st [] [] [] b true (by simp) st [] (List.replicate l.length true) [] rfl (by simpa using hs) (by simp; omega)) (ev_eq (Ev.now _) ?_)
      show (_, _) = (_, _)
      rw [show endC l rw m [] st b = (b && st.all id) from rfl, all_rep, hs]
      cases b <;> simp
  | cons g r ih =>
    intro pre st b hn hg hs
    have h1 := hg g (by simp)
    have he := loCan_ev l rw m st b g (by omega) h1 hr hs
    have hu : ∀ k, spec_IsCrewPlan.l0 (k + 1) (pre ++ g :: r) ((pre ++ g :: r).length : Int) (pre.length : Int) l rw m st b = (spec_loCan.f k l rw m st b g).bind fun t389 => (if t389 = true then ((spec_paCross.f k st b g).bind fun bt390 => (spec_IsCrewPlan.l0 k (pre ++ g :: r) ((pre ++ g :: r).length : Int) (wrap64 ((pre.length : Int) + 1)) l rw m bt390.1 bt390.2)) else (some (false, true))) := by
      intro k
      simp only [spec_IsCrewPlan.l0]
      rw [if_pos (lt_mid pre g r), if_pos (zle _), if_pos (lt_mid pre g r), rd_L2_mid]
    rw [endC_cons]
    cases q : rideC l rw m st b g with
    | false =>
      rw [q] at he
      exact Ev.step hu (Ev.bind he (Ev.now _))
    | true =>
      rw [q] at he
      obtain ⟨hi, hb⟩ := rideC_in q
      refine Ev.step hu (Ev.bind he ?_)
      simp only [if_true]
      refine Ev.bind (paCross_ev st b g (by omega) h1 (by rw [hs]; exact hi) hb) ?_
      dsimp only
      rw [wr_mid pre g r (by omega), app_mid pre g r]
      exact ih (pre ++ [g]) _ _ (by simpa using hn) (fun y hy => hg y (by simp [hy])) (by rw [mv_len, hs])
theorem impl_cpLoop (l : List Int) (rw : List Bool) (m : Int) (hl : l.length ≤ 7) (hr : rw.length = l.length) : ∀ (r pre : List (List Int)) (st : List Bool) (b : Bool), (pre ++ r).length ≤ 1048576 → (∀ g ∈ r, g.length ≤ 1048576) → st.length = l.length → Ev (fun k => impl_IsCrewPlan.l0 k (pre ++ r) ((pre ++ r).length : Int) (pre.length : Int) l rw m st b) (endC l rw m r st b, true) := by
  intro r
  induction r with
  | nil =>
    intro pre st b hn hg hs
    refine Ev.step (f := fun k => (impl_State_code.f k st b).bind fun t422 => ((impl_last.f (l.length : Int)).bind fun t423 => (some ((t422 == t423), true)))) (fun k => ?_) (Ev.bind (code_ev st b (by omega)) (Ev.bind (ev_some (last_eq l.length (by omega))) (ev_eq (Ev.now _) ?_)))
    · simp only [impl_IsCrewPlan.l0]
      rw [if_neg (nlt_end pre)]
    · have := codeP_last st b
      rw [hs] at this
      show (_, _) = (_, _)
      rw [show endC l rw m [] st b = (b && st.all id) from rfl]
      congr 1
      cases hc : (b && st.all id) with
      | true => rw [this.2 hc]; simp
      | false =>
        have hn : ¬ codeP st b = 2 ^ (l.length + 1) - 1 := fun e => by rw [this.1 e] at hc; cases hc
        rw [beq_eq_false_iff_ne]
        exact fun e => hn (by omega)
  | cons g r ih =>
    intro pre st b hn hg hs
    have h1 := hg g (by simp)
    have he := isRide_ev l rw m st b g (by omega) h1 hr hs
    have hu : ∀ k, impl_IsCrewPlan.l0 (k + 1) (pre ++ g :: r) ((pre ++ g :: r).length : Int) (pre.length : Int) l rw m st b = (impl_Crew_isRide.f k l rw m st b g).bind fun t389 => (if t389 = true then ((impl_State_moved.f k st b g).bind fun bt390 => (impl_IsCrewPlan.l0 k (pre ++ g :: r) ((pre ++ g :: r).length : Int) (wrap64 ((pre.length : Int) + 1)) l rw m bt390.1 bt390.2)) else (some (false, true))) := by
      intro k
      simp only [impl_IsCrewPlan.l0]
      rw [if_pos (lt_mid pre g r), if_pos (zle _), if_pos (lt_mid pre g r), rd_L2_mid]
    rw [endC_cons]
    cases q : rideC l rw m st b g with
    | false =>
      rw [q] at he
      exact Ev.step hu (Ev.bind he (Ev.now _))
    | true =>
      rw [q] at he
      obtain ⟨hi, hb⟩ := rideC_in q
      refine Ev.step hu (Ev.bind he ?_)
      simp only [if_true]
      refine Ev.bind (moved_ev st b g (by omega) h1 (by rw [hs]; exact hi)) ?_
      dsimp only
      rw [wr_mid pre g r (by omega), app_mid pre g r]
      exact ih (pre ++ [g]) _ _ (by simpa using hn) (fun y hy => hg y (by simp [hy])) (by rw [mv_len, hs])
theorem spec_FnExactIsCrewPlan_ev (l : List Int) (rw : List Bool) (m : Int) (gs : List (List Int)) (hl : l.length ≤ 1048576) (hr : rw.length ≤ 1048576) (hn : n2 gs ≤ 1048576) : Ev (fun k => spec_IsCrewPlan.f k l rw m gs) (FnExactIsCrewPlan_val l rw m gs) := by
  obtain ⟨hn1, hn2⟩ := szSum_bound List.length gs (by simpa only [n2] using hn)
  unfold spec_IsCrewPlan.f FnExactIsCrewPlan_val
  refine Ev.bind (loGood_ev l rw m hl) ?_
  cases hc : goodC l rw m with
  | false =>
    simp only [Bool.false_eq_true, if_false]
    exact Ev.step (fun k => spec_IsCrewPlan.j0.eq_2 ..) (Ev.now _)
  | true =>
    obtain ⟨h1, h2, h3⟩ := goodC_in hc
    simp only [if_true]
    refine Ev.step (fun k => spec_IsCrewPlan.j0.eq_2 ..) ?_
    by_cases c : 40 < gs.length
    · simp only [if_pos c, decide_eq_true (show (gs.length : Int) > 40 by omega), if_true]
      exact Ev.now _
    · simp only [if_neg c, decide_eq_false (show ¬ (gs.length : Int) > 40 by omega), Bool.false_eq_true, if_false]
      have ha : spec_paFirst.f l 0 = some (List.replicate l.length false, false) := by
        unfold spec_paFirst.f
        rw [if_pos (zle _), if_pos (show ((l.length : Int)).toNat ≤ 281474976710656 by omega), Int.toNat_natCast]
      refine Ev.bind (ev_some (show spec_loParty.f l rw m = some (l, 0) from rfl)) (Ev.bind (ev_some ha) ?_)
      exact spec_cpLoop l rw m h2 h3 gs [] _ _ (by simpa using hn1) hn2 (by simp)
theorem impl_FnExactIsCrewPlan_ev (l : List Int) (rw : List Bool) (m : Int) (gs : List (List Int)) (hl : l.length ≤ 1048576) (hr : rw.length ≤ 1048576) (hn : n2 gs ≤ 1048576) : Ev (fun k => impl_IsCrewPlan.f k l rw m gs) (FnExactIsCrewPlan_val l rw m gs) := by
  obtain ⟨hn1, hn2⟩ := szSum_bound List.length gs (by simpa only [n2] using hn)
  unfold impl_IsCrewPlan.f FnExactIsCrewPlan_val
  refine Ev.bind (ev_some (isCrew_eq l rw m)) ?_
  cases hc : goodC l rw m with
  | false =>
    simp only [Bool.false_eq_true, if_false]
    exact Ev.step (fun k => impl_IsCrewPlan.j0.eq_2 ..) (Ev.now _)
  | true =>
    obtain ⟨h1, h2, h3⟩ := goodC_in hc
    simp only [if_true]
    refine Ev.step (fun k => impl_IsCrewPlan.j0.eq_2 ..) ?_
    by_cases c : 40 < gs.length
    · simp only [if_pos c, decide_eq_true (show (gs.length : Int) > 40 by omega), if_true]
      exact Ev.now _
    · simp only [if_neg c, decide_eq_false (show ¬ (gs.length : Int) > 40 by omega), Bool.false_eq_true, if_false]
      have ha : impl_allAt.f (l.length : Int) false = some (List.replicate l.length false, false) := by
        unfold impl_allAt.f slices_Repeat_bool_bool.f
        rw [if_pos ⟨zle _, by omega, rfl⟩]
        simp [rdOf]
      refine Ev.bind (ev_some ha) ?_
      exact impl_cpLoop l rw m h2 h3 gs [] _ _ (by simpa using hn1) hn2 (by simp)
theorem FnExactIsCrewPlan_small (l : List Int) (rw : List Bool) (m : Int) (gs : List (List Int)) (hl : l.length ≤ 1048576) (hr : rw.length ≤ 1048576) (hn : n2 gs ≤ 1048576) : True := trivial
theorem FnExactIsCrewPlan_pure : ∀ (l0_0 : List Int) (l0_1 : List Bool) (a0_2 : Int) (l1 : List (List Int)), goodL goodI l0_0 → goodL (fun _ => True) l0_1 → goodI a0_2 → goodL (goodL goodI) l1 → ∃ k, laws_FnExactIsCrewPlan.f k l0_0 l0_1 a0_2 l1 = some true := by
  intro l0_0 l0_1 a0_2 l1 g0_0 g0_1 g0_2 g1
  obtain ⟨u0, hu0, hc⟩ := szCrew_cases l0_0 l0_1 a0_2 1048576 (by omega) (by omega) g0_0.1 g0_1.1
  replace hu0 := ev_some hu0
  rcases hc with hc | ⟨b0, d0⟩
  · refine Ev.rounds ?_
    unfold laws_FnExactIsCrewPlan.f
    repeat (first | exact Ev.now _ | (refine Ev.bind (by assumption) ?_; try dsimp only) | (simp only [hc, if_true, if_false, bne_self_eq_false, Bool.false_eq_true]) | refine Ev.step (fun k => laws_FnExactIsCrewPlan.j0.eq_2 ..) ?_ | refine Ev.step (fun k => laws_FnExactIsCrewPlan.j1.eq_2 ..) ?_ | refine Ev.step (fun k => laws_FnExactIsCrewPlan.j2.eq_2 ..) ?_ | refine Ev.step (fun k => laws_FnExactIsCrewPlan.j3.eq_2 ..) ?_ | refine Ev.step (fun k => laws_FnExactIsCrewPlan.j4.eq_2 ..) ?_)
  have nu0 : ¬ u0 < 0 := by omega
  obtain ⟨u1, hu1, hc⟩ := szIntSS_cases l1 u0 b0 (by omega) (good2 g1)
  rcases hc with hc | ⟨b1, d1⟩
  · refine Ev.rounds ?_
    unfold laws_FnExactIsCrewPlan.f
    repeat (first | exact Ev.now _ | (refine Ev.bind (by assumption) ?_; try dsimp only) | (simp only [hc, nu0, if_true, if_false, bne_self_eq_false, Bool.false_eq_true]) | refine Ev.step (fun k => laws_FnExactIsCrewPlan.j0.eq_2 ..) ?_ | refine Ev.step (fun k => laws_FnExactIsCrewPlan.j1.eq_2 ..) ?_ | refine Ev.step (fun k => laws_FnExactIsCrewPlan.j2.eq_2 ..) ?_ | refine Ev.step (fun k => laws_FnExactIsCrewPlan.j3.eq_2 ..) ?_ | refine Ev.step (fun k => laws_FnExactIsCrewPlan.j4.eq_2 ..) ?_)
  have nu1 : ¬ u1 < 0 := by omega
  have z0_0 : List.length l0_0 ≤ 1048576 := by omega
  have z0_1 : List.length l0_1 ≤ 1048576 := by omega
  have z1 : n2 l1 ≤ 1048576 := by omega
  have et0 := toCrew_ev l0_0 l0_1 a0_2 z0_0 z0_1
  have et1 := toIntSS_ev l1 z1
  have es := spec_FnExactIsCrewPlan_ev l0_0 l0_1 a0_2 l1 z0_0 z0_1 z1
  have ei := impl_FnExactIsCrewPlan_ev l0_0 l0_1 a0_2 l1 z0_0 z0_1 z1
  have hsm := FnExactIsCrewPlan_small l0_0 l0_1 a0_2 l1 z0_0 z0_1 z1
  generalize FnExactIsCrewPlan_val l0_0 l0_1 a0_2 l1 = rr at *
  obtain ⟨r0, r1⟩ := rr
  have ea0 : Ev (fun k => laws_eqCrew.f k l0_0 l0_1 a0_2 l0_0 l0_1 a0_2) true := ev_eq (eqCrew_ev l0_0 l0_1 a0_2 l0_0 l0_1 a0_2 z0_0 z0_1) (decide_eq_true rfl)
  have ea1 : Ev (fun k => laws_eqIntSS.f k l1 l1) true := ev_eq (eqIntSS_ev l1 l1 z1) (decide_eq_true rfl)
  refine Ev.rounds ?_
  unfold laws_FnExactIsCrewPlan.f
  repeat (first | exact Ev.now _ | (refine Ev.bind (by assumption) ?_; try dsimp only) | (simp only [nu0, nu1, if_true, if_false, bne_self_eq_false, Bool.false_eq_true]) | refine Ev.step (fun k => laws_FnExactIsCrewPlan.j0.eq_2 ..) ?_ | refine Ev.step (fun k => laws_FnExactIsCrewPlan.j1.eq_2 ..) ?_ | refine Ev.step (fun k => laws_FnExactIsCrewPlan.j2.eq_2 ..) ?_ | refine Ev.step (fun k => laws_FnExactIsCrewPlan.j3.eq_2 ..) ?_ | refine Ev.step (fun k => laws_FnExactIsCrewPlan.j4.eq_2 ..) ?_)
end Go.Proofs.Ytikjdmiohpdnaaa.Pure
