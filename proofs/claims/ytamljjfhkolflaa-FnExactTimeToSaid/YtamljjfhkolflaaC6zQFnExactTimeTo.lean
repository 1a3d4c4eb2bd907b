import Derived.Test.YtamljjfhkolflaaC6zx0
import Derived.Test.YtamljjfhkolflaaC6zx1
import Derived.Test.YtamljjfhkolflaaC6zx12
import Derived.Test.YtamljjfhkolflaaC6zx13
import Derived.Test.YtamljjfhkolflaaC6zx6
import Derived.Test.YtamljjfhkolflaaC6zH0
import Derived.Test.YtamljjfhkolflaaC6zH1
import Derived.Test.YtamljjfhkolflaaC6zQ0
import Derived.Test.YtamljjfhkolflaaC6zQ1
import Derived.Test.YtamljjfhkolflaaC6zQ2
import Derived.Test.YtamljjfhkolflaaC6zQ3
import Derived.Test.YtamljjfhkolflaaC6zQ4
import Derived.Test.YtamljjfhkolflaaC6zQ5
import Derived.Test.YtamljjfhkolflaaC6zQS
import Derived.Test.YtamljjfhkolflaaC6zQG
import Derived.Test.YtamljjfhkolflaaC6zQN
import Derived.Test.YtamljjfhkolflaaC6zQP
import Derived.Test.YtamljjfhkolflaaC6zQT
import Derived.Test.YtamljjfhkolflaaC6zQD
import Derived.Test.YtamljjfhkolflaaC6zQE
import Derived.Test.YtamljjfhkolflaaC6zQF
namespace Go.Proofs.Ytamljjfhkolflaa.Pure
open Go.RowKit Go.Proofs.Ytamljjfhkolflaa.C6 Go.Proofs.Ytamljjfhkolflaa.H Go.Proofs.YtamljjfhkolflaaW.PrintWords Go.Proofs.YtamljjfhkolflaaW.PrintLast Go.Proofs.YtamljjfhkolflaaW.PrintMore
set_option linter.unusedVariables false
set_option linter.unusedSimpArgs false
theorem FnExactTimeTo_both (l : List Int) (m : Int) (ov : List Bool) (tr : Bool) (hl : l.length ≤ 1048576) (ho : ov.length ≤ 1048576) : ∃ rr : Int × Bool, Ev (fun k => spec_TimeTo.f k l m ov tr) rr ∧ Ev (fun k => impl_TimeTo.f k l m ov tr) rr ∧ True := by
  unfold spec_TimeTo.f impl_TimeTo.f
  cases hg : (goodP l m && stateP l.length ov tr) with
  | false =>
    refine ⟨(0, false), Ev.bind (paAsked_ev l m ov tr hl ho) ?_, Ev.bind (hasStateP_ev l m ov tr ho) ?_, trivial⟩
    · rw [hg]; simp only [Bool.false_eq_true, if_false]; exact Ev.now _
    · rw [hg]; simp only [Bool.false_eq_true, if_false]; exact Ev.now _
  | true =>
    have hq := hg
    simp only [Bool.and_eq_true] at hq
    have hn := (goodP_times hq.1).2.1
    have hlo := stateP_len hq.2
    have hlF : (List.replicate l.length false).length = l.length := by simp
    have hV := en_facts hn ov tr hlo
    obtain ⟨far, r, x, f1, f2, r1, r2, e1, e2, e3⟩ := far_vals hq.1 (List.replicate l.length false) ov false tr hlF hlo
    rw [first_en hn] at r1
    have hfl : (far.length : Int) = 2 ^ (l.length + 1) := by rw [f2]; exact pow_nat _
    refine ⟨if x < 0 then (0, false) else (x, true), Ev.bind (paAsked_ev l m ov tr hl ho) ?_, Ev.bind (hasStateP_ev l m ov tr ho) ?_, trivial⟩
    · rw [hg]
      simp only [if_true]
      rw [paFirst_eq l m hl]
      simp only [Option.bind_some]
      refine Ev.bind f1 (Ev.bind (seIndex_ev hn ov tr hlo) ?_)
      simp only [if_pos (show 0 ≤ enS ov tr ∧ enS ov tr < (far.length : Int) from ⟨hV.2.2.2.1, by rw [hfl]; exact hV.2.2.2.2.1⟩), e1]
      by_cases h0 : x < 0
      · simp only [if_pos h0]; exact Ev.now _
      · simp only [if_neg h0]; exact Ev.now _
    · rw [hg]
      simp only [if_true]
      exact Ev.bind (between_ev (m := m) hn hlo r1 r2 e2 e3) (Ev.now _)
theorem FnExactTimeTo_pure : ∀ (l0_0 : List Int) (a0_1 : Int) (l1_0 : List Bool) (a1_1 : Bool), goodL goodI l0_0 → goodI a0_1 → goodL (fun _ => True) l1_0 → ∃ k, laws_FnExactTimeTo.f k l0_0 a0_1 l1_0 a1_1 = some true := by
  intro l0_0 a0_1 l1_0 a1_1 g0_0 g0_1 g1_0
  obtain ⟨u0, hu0, hc⟩ := szParty_cases l0_0 a0_1 1048576 (by omega) (by omega) g0_0.1
  replace hu0 := ev_some hu0
  rcases hc with hc | ⟨b0, d0⟩
  · refine Ev.rounds ?_
    unfold laws_FnExactTimeTo.f
    repeat (first | exact Ev.now _ | (refine Ev.bind (by assumption) ?_; try dsimp only) | (simp only [hc, if_true, if_false, bne_self_eq_false, Bool.false_eq_true]) | refine Ev.step (fun k => laws_FnExactTimeTo.j0.eq_2 ..) ?_ | refine Ev.step (fun k => laws_FnExactTimeTo.j1.eq_2 ..) ?_ | refine Ev.step (fun k => laws_FnExactTimeTo.j2.eq_2 ..) ?_ | refine Ev.step (fun k => laws_FnExactTimeTo.j3.eq_2 ..) ?_ | refine Ev.step (fun k => laws_FnExactTimeTo.j4.eq_2 ..) ?_)
  have nu0 : ¬ u0 < 0 := by omega
  obtain ⟨u1, hu1, hc⟩ := szState_cases l1_0 a1_1 u0 b0 (by omega) g1_0.1
  replace hu1 := ev_some hu1
  rcases hc with hc | ⟨b1, d1⟩
  · refine Ev.rounds ?_
    unfold laws_FnExactTimeTo.f
    repeat (first | exact Ev.now _ | (refine Ev.bind (by assumption) ?_; try dsimp only) | (simp only [hc, nu0, if_true, if_false, bne_self_eq_false, Bool.false_eq_true]) | refine Ev.step (fun k => laws_FnExactTimeTo.j0.eq_2 ..) ?_ | refine Ev.step (fun k => laws_FnExactTimeTo.j1.eq_2 ..) ?_ | refine Ev.step (fun k => laws_FnExactTimeTo.j2.eq_2 ..) ?_ | refine Ev.step (fun k => laws_FnExactTimeTo.j3.eq_2 ..) ?_ | refine Ev.step (fun k => laws_FnExactTimeTo.j4.eq_2 ..) ?_)
  have nu1 : ¬ u1 < 0 := by omega
  have z0_0 : List.length l0_0 ≤ 1048576 := by omega
  have z1_0 : List.length l1_0 ≤ 1048576 := by omega
  have et0 := toParty_ev l0_0 a0_1 z0_0
  have et1 := toState_ev l1_0 a1_1 z1_0
  obtain ⟨rr, es, ei, hsm⟩ := FnExactTimeTo_both l0_0 a0_1 l1_0 a1_1 z0_0 z1_0
  obtain ⟨r0, r1⟩ := rr
  have ea0 : Ev (fun k => laws_eqParty.f k l0_0 a0_1 l0_0 a0_1) true := ev_eq (eqParty_ev l0_0 a0_1 l0_0 a0_1 z0_0) (decide_eq_true rfl)
  have ea1 : Ev (fun k => laws_eqState.f k l1_0 a1_1 l1_0 a1_1) true := ev_eq (eqState_ev l1_0 a1_1 l1_0 a1_1 z1_0) (decide_eq_true rfl)
  refine Ev.rounds ?_
  unfold laws_FnExactTimeTo.f
  repeat (first | exact Ev.now _ | (refine Ev.bind (by assumption) ?_; try dsimp only) | (simp only [nu0, nu1, if_true, if_false, bne_self_eq_false, Bool.false_eq_true]) | refine Ev.step (fun k => laws_FnExactTimeTo.j0.eq_2 ..) ?_ | refine Ev.step (fun k => laws_FnExactTimeTo.j1.eq_2 ..) ?_ | refine Ev.step (fun k => laws_FnExactTimeTo.j2.eq_2 ..) ?_ | refine Ev.step (fun k => laws_FnExactTimeTo.j3.eq_2 ..) ?_ | refine Ev.step (fun k => laws_FnExactTimeTo.j4.eq_2 ..) ?_)
end Go.Proofs.Ytamljjfhkolflaa.Pure
