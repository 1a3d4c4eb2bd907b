import Derived.Test.YtamljjfhkolflaaC1zx0
import Derived.Test.YtamljjfhkolflaaC1zx1
import Derived.Test.YtamljjfhkolflaaC1zx10
import Derived.Test.YtamljjfhkolflaaC1zx11
import Derived.Test.YtamljjfhkolflaaC1zx6
import Derived.Test.YtamljjfhkolflaaC1zH0
import Derived.Test.YtamljjfhkolflaaC1zH1
import Derived.Test.YtamljjfhkolflaaC1zQ0
import Derived.Test.YtamljjfhkolflaaC1zQ1
import Derived.Test.YtamljjfhkolflaaC1zQ2
import Derived.Test.YtamljjfhkolflaaC1zQ3
import Derived.Test.YtamljjfhkolflaaC1zQ4
import Derived.Test.YtamljjfhkolflaaC1zQ5
import Derived.Test.YtamljjfhkolflaaC1zQS
import Derived.Test.YtamljjfhkolflaaC1zQG
import Derived.Test.YtamljjfhkolflaaC1zQN
import Derived.Test.YtamljjfhkolflaaC1zQP
import Derived.Test.YtamljjfhkolflaaC1zQT
import Derived.Test.YtamljjfhkolflaaC1zQD
import Derived.Test.YtamljjfhkolflaaC1zQE
namespace Go.Proofs.Ytamljjfhkolflaa.Pure
open Go.RowKit Go.Proofs.Ytamljjfhkolflaa.C1 Go.Proofs.Ytamljjfhkolflaa.H Go.Proofs.YtamljjfhkolflaaW.PrintWords Go.Proofs.YtamljjfhkolflaaW.PrintLast Go.Proofs.YtamljjfhkolflaaW.PrintMore
set_option linter.unusedVariables false
set_option linter.unusedSimpArgs false
theorem FnExactLeastTime_both (l : List Int) (m : Int) (hl : l.length ≤ 1048576) : ∃ rr : Int × Bool, Ev (fun k => spec_LeastTime.f k l m) rr ∧ Ev (fun k => impl_LeastTime.f k l m) rr ∧ True := by
  unfold spec_LeastTime.f impl_LeastTime.f impl_Party_least.f
  rw [isParty_eq]
  cases hg : goodP l m with
  | false =>
    refine ⟨(0, false), Ev.bind (paGood_ev l m hl) ?_, ?_, trivial⟩
    · rw [hg]; simp only [Bool.false_eq_true, if_false]; exact Ev.now _
    · simp only [Option.bind_some, Bool.false_eq_true, if_false]; exact Ev.now _
  | true =>
    obtain ⟨d, d1, d2, _⟩ := least_both hg
    refine ⟨if rd d 0 < 0 then (0, false) else (rd d 0, true), Ev.bind (paGood_ev l m hl) ?_, ?_, trivial⟩
    · rw [hg]
      simp only [if_true]
      refine Ev.bind d2 ?_
      by_cases h0 : rd d 0 < 0
      · simp only [if_pos h0]; exact Ev.now _
      · simp only [if_neg h0]; exact Ev.bind d2 (Ev.now _)
    · have hleast : Ev (fun k => (impl_Party_costs.f k l m true).bind fun p => if p.2 = true then some (rd p.1 0, true) else some (0, false)) (if rd d 0 < 0 then (0, false) else (rd d 0, true)) := by
        refine Ev.bind d1 ?_
        dsimp only
        by_cases h0 : rd d 0 < 0
        · rw [if_pos h0]; simp only [decide_eq_false (show ¬ 0 ≤ rd d 0 by omega), Bool.false_eq_true, if_false]; exact Ev.now _
        · rw [if_neg h0]; simp only [decide_eq_true (show 0 ≤ rd d 0 by omega), if_true]; exact Ev.now _
      simp only [Option.bind_some, if_true]
      exact Ev.bind hleast (Ev.now _)
theorem FnExactLeastTime_pure : ∀ (l0_0 : List Int) (a0_1 : Int), goodL goodI l0_0 → goodI a0_1 → ∃ k, laws_FnExactLeastTime.f k l0_0 a0_1 = some true := by
  intro l0_0 a0_1 g0_0 g0_1
  obtain ⟨u0, hu0, hc⟩ := szParty_cases l0_0 a0_1 1048576 (by omega) (by omega) g0_0.1
  replace hu0 := ev_some hu0
  rcases hc with hc | ⟨b0, d0⟩
  · refine Ev.rounds ?_
    unfold laws_FnExactLeastTime.f
    repeat (first | exact Ev.now _ | (refine Ev.bind (by assumption) ?_; try dsimp only) | (simp only [hc, if_true, if_false, bne_self_eq_false, Bool.false_eq_true]) | refine Ev.step (fun k => laws_FnExactLeastTime.j0.eq_2 ..) ?_ | refine Ev.step (fun k => laws_FnExactLeastTime.j1.eq_2 ..) ?_ | refine Ev.step (fun k => laws_FnExactLeastTime.j2.eq_2 ..) ?_)
  have nu0 : ¬ u0 < 0 := by omega
  have z0_0 : List.length l0_0 ≤ 1048576 := by omega
  have et0 := toParty_ev l0_0 a0_1 z0_0
  obtain ⟨rr, es, ei, hsm⟩ := FnExactLeastTime_both l0_0 a0_1 z0_0
  obtain ⟨r0, r1⟩ := rr
  have ea0 : Ev (fun k => laws_eqParty.f k l0_0 a0_1 l0_0 a0_1) true := ev_eq (eqParty_ev l0_0 a0_1 l0_0 a0_1 z0_0) (decide_eq_true rfl)
  refine Ev.rounds ?_
  unfold laws_FnExactLeastTime.f
  repeat (first | exact Ev.now _ | (refine Ev.bind (by assumption) ?_; try dsimp only) | (simp only [nu0, if_true, if_false, bne_self_eq_false, Bool.false_eq_true]) | refine Ev.step (fun k => laws_FnExactLeastTime.j0.eq_2 ..) ?_ | refine Ev.step (fun k => laws_FnExactLeastTime.j1.eq_2 ..) ?_ | refine Ev.step (fun k => laws_FnExactLeastTime.j2.eq_2 ..) ?_)
end Go.Proofs.Ytamljjfhkolflaa.Pure
