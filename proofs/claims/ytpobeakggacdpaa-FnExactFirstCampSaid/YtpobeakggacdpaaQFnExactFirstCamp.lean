import Derived.Test.YtpobeakggacdpaaC1x0
import Derived.Test.YtpobeakggacdpaaC1x1
import Derived.Test.YtpobeakggacdpaaC1x2
import Derived.Test.YtpobeakggacdpaaC1x4
import Derived.Test.YtpobeakggacdpaaC1Q0
import Derived.Test.YtpobeakggacdpaaH1
import Derived.Test.YtpobeakggacdpaaC1Q1
import Derived.Test.YtpobeakggacdpaaC1Q2
namespace Go.Proofs.Ytpobeakggacdpaa.Pure
open Go.RowKit Go.Proofs.Ytpobeakggacdpaa.C1 Go.Proofs.Ytpobeakggacdpaa.H Go.Proofs.YtpobeakggacdpaaW.PrintWords Go.Proofs.YtpobeakggacdpaaW.PrintLast Go.Proofs.YtpobeakggacdpaaW.PrintMore
set_option linter.unusedVariables false
set_option linter.unusedSimpArgs false
def firstCamp (l : List Int) (s t : Int) : List Bool × Int × Bool := if goodN l s t then (List.replicate l.length false, 0, true) else ([], 0, false)
theorem spec_firstCamp (l : List Int) (s t : Int) (hl : l.length ≤ 1048576) : Ev (fun k => spec_FirstCamp.f k l s t) (firstCamp l s t) := by
  obtain ⟨K, e⟩ := toGood_ev l s t hl
  refine ⟨K, fun k hk => ?_⟩
  unfold spec_FirstCamp.f firstCamp
  simp only [e k hk, Option.bind_some]
  rw [if_pos (zle _), if_pos (show ((l.length : Int)).toNat ≤ 281474976710656 by omega), Int.toNat_natCast]
  cases goodN l s t <;> rfl
theorem impl_firstCamp (l : List Int) (s t : Int) (hl : l.length ≤ 1048576) : impl_FirstCamp.f l s t = some (firstCamp l s t) := by
  unfold impl_FirstCamp.f impl_Night_firstCamp.f firstCamp
  rw [isNight_eq, if_pos (zle _), if_pos (show ((l.length : Int)).toNat ≤ 281474976710656 by omega), Int.toNat_natCast]
  cases goodN l s t <;> rfl
theorem firstCamp_small (l : List Int) (s t : Int) (hl : l.length ≤ 1048576) : (firstCamp l s t).1.length ≤ 1048576 := by
  unfold firstCamp
  split <;> simp <;> omega
theorem FnExactFirstCamp_pure : ∀ (l0_0 : List Int) (a0_1 : Int) (a0_2 : Int), goodL goodI l0_0 → goodI a0_1 → goodI a0_2 → ∃ k, laws_FnExactFirstCamp.f k l0_0 a0_1 a0_2 = some true := by
  intro l s t gl _ _
  obtain ⟨u, hu, hc⟩ := szNight_cases l s t 1048576 (by omega) (by omega) gl.1
  rcases hc with hc | ⟨_, hl⟩
  · exact ⟨0, by unfold laws_FnExactFirstCamp.f; rw [hu, Option.bind_some, if_pos hc]⟩
  have hl' : l.length ≤ 1048576 := by omega
  have hw := firstCamp_small l s t hl'
  have e1 := toNight_ev l s t hl'
  have e2 := spec_firstCamp l s t hl'
  have e3 := ev_some (impl_firstCamp l s t hl')
  generalize firstCamp l s t = r at *
  obtain ⟨o, q, ok⟩ := r
  have e4 : Ev (fun k => laws_eqCamp.f k o q o q) true := ev_eq (eqCamp_ev o q o q hw) (decide_eq_true rfl)
  have e5 : Ev (fun k => laws_eqNight.f k l s t l s t) true := ev_eq (eqNight_ev l s t l s t hl') (decide_eq_true rfl)
  have e6 := markNight_ev l s t 1 hl'
  have e7 := markCamp_ev o q 1 hw
  have e8 := heldCamp_ev o q 1 (by omega) (by omega) hw
  have b6 := mkS_bound l 1 (by omega) (by omega)
  have b7 := mkB_bound o 1 (by omega) (by simp only at hw; omega)
  have n6 : ¬ (mkS l 1).1 < 0 := by omega
  have n7 : ¬ (mkB o 1).1 < 0 := by omega
  clear b6 b7
  refine Ev.rounds (Ev.bind (ev_some hu) ?_)
  simp only [if_neg (show ¬ u < 0 by omega)]
  repeat (first | exact Ev.now _ | (refine Ev.bind (by assumption) ?_; try dsimp only) | (simp only [n6, n7, if_true, if_false, bne_self_eq_false, Bool.false_eq_true]) | refine Ev.step (fun k => laws_FnExactFirstCamp.j0.eq_2 ..) ?_ | refine Ev.step (fun k => laws_FnExactFirstCamp.j1.eq_2 ..) ?_ | refine Ev.step (fun k => laws_FnExactFirstCamp.j2.eq_2 ..) ?_ | refine Ev.step (fun k => laws_FnExactFirstCamp.j3.eq_2 ..) ?_ | refine Ev.step (fun k => laws_FnExactFirstCamp.j4.eq_2 ..) ?_ | refine Ev.step (fun k => laws_FnExactFirstCamp.j5.eq_2 ..) ?_ | refine Ev.step (fun k => laws_FnExactFirstCamp.j6.eq_2 ..) ?_ | refine Ev.step (fun k => laws_FnExactFirstCamp.j7.eq_2 ..) ?_ | refine Ev.step (fun k => laws_FnExactFirstCamp.j8.eq_2 ..) ?_ | refine Ev.step (fun k => laws_FnExactFirstCamp.j9.eq_2 ..) ?_)
end Go.Proofs.Ytpobeakggacdpaa.Pure
