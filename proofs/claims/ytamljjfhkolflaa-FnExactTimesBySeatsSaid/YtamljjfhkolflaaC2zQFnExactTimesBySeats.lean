import Derived.Test.YtamljjfhkolflaaC2zx0
import Derived.Test.YtamljjfhkolflaaC2zx1
import Derived.Test.YtamljjfhkolflaaC2zx10
import Derived.Test.YtamljjfhkolflaaC2zx11
import Derived.Test.YtamljjfhkolflaaC2zx12
import Derived.Test.YtamljjfhkolflaaC2zx6
import Derived.Test.YtamljjfhkolflaaC2zH0
import Derived.Test.YtamljjfhkolflaaC2zH1
import Derived.Test.YtamljjfhkolflaaC2zQ0
import Derived.Test.YtamljjfhkolflaaC2zQ1
import Derived.Test.YtamljjfhkolflaaC2zQ2
import Derived.Test.YtamljjfhkolflaaC2zQ3
import Derived.Test.YtamljjfhkolflaaC2zQ4
import Derived.Test.YtamljjfhkolflaaC2zQ5
import Derived.Test.YtamljjfhkolflaaC2zQS
import Derived.Test.YtamljjfhkolflaaC2zQG
import Derived.Test.YtamljjfhkolflaaC2zQN
import Derived.Test.YtamljjfhkolflaaC2zQP
import Derived.Test.YtamljjfhkolflaaC2zQT
import Derived.Test.YtamljjfhkolflaaC2zQD
import Derived.Test.YtamljjfhkolflaaC2zQE
namespace Go.Proofs.Ytamljjfhkolflaa.Pure
open Go.RowKit Go.Proofs.Ytamljjfhkolflaa.C2 Go.Proofs.Ytamljjfhkolflaa.H Go.Proofs.YtamljjfhkolflaaW.PrintWords Go.Proofs.YtamljjfhkolflaaW.PrintLast Go.Proofs.YtamljjfhkolflaaW.PrintMore
set_option linter.unusedVariables false
set_option linter.unusedSimpArgs false
theorem bySeats_loop {l : List Int} {m : Int} (h : goodP l m = true) : ∀ (n : Nat) (s : Int) (acc : List Int), s + n = 4 → 1 ≤ s → acc.length + n ≤ 10 → ∃ r : List Int × Bool, Ev (fun k => spec_TimesBySeats.l0 k acc s l m) r ∧ Ev (fun k => impl_TimesBySeats.l0 k acc s l m) r ∧ r.1.length ≤ 10 := by
  intro n
  induction n with
  | zero =>
    intro s acc hs h1 ha
    refine ⟨(acc, true), Ev.step (f := fun _ => some _) (fun k => ?_) (Ev.now _), Ev.step (f := fun _ => some _) (fun k => ?_) (Ev.now _), by simpa using ha⟩
    · rw [spec_TimesBySeats.l0, if_neg (by omega)]
    · rw [impl_TimesBySeats.l0, if_neg (by omega)]
  | succ n ih =>
    intro s acc hs h1 ha
    have hg : goodP l s = true := by
      simp only [goodP, Bool.and_eq_true] at h ⊢
      exact ⟨h.1, by simp only [inB, Bool.and_eq_true, decide_eq_true_eq]; omega⟩
    obtain ⟨d, d1, d2, d3⟩ := least_both hg
    obtain ⟨r, r1, r2, r3⟩ := ih (s + 1) (acc ++ [rd d 0]) (by omega) (by omega) (by simp; omega)
    refine ⟨r, ?_, ?_, r3⟩
    · refine Ev.step (fun k => spec_TimesBySeats.l0.eq_2 ..) ?_
      rw [wr_id (a := s + 1) (by omega) (by omega)]
      simp only [if_pos (show s ≤ 3 by omega), if_pos (show acc.length < 17592186044416 by omega)]
      exact Ev.bind d2 r1
    · refine Ev.step (fun k => impl_TimesBySeats.l0.eq_2 ..) ?_
      rw [wr_id (a := s + 1) (by omega) (by omega)]
      simp only [if_pos (show s ≤ 3 by omega), if_pos (show acc.length < 17592186044416 by omega)]
      have hleast : Ev (fun k => impl_Party_least.f k l s) (if rd d 0 < 0 then (0, false) else (rd d 0, true)) := by
        unfold impl_Party_least.f
        refine Ev.bind d1 ?_
        dsimp only
        by_cases h0 : rd d 0 < 0
        · rw [if_pos h0]; simp only [decide_eq_false (show ¬ 0 ≤ rd d 0 by omega), Bool.false_eq_true, if_false]; exact Ev.now _
        · rw [if_neg h0]; simp only [decide_eq_true (show 0 ≤ rd d 0 by omega), if_true]; exact Ev.now _
      refine Ev.bind hleast ?_
      by_cases h0 : rd d 0 < 0
      · rw [if_pos h0]
        simp only [Bool.false_eq_true, if_false]
        rw [show (-1 : Int) = rd d 0 by omega]
        exact r2
      · rw [if_neg h0]
        simp only [if_true]
        exact r2
theorem FnExactTimesBySeats_both (l : List Int) (m : Int) (hl : l.length ≤ 1048576) : ∃ rr : List Int × Bool, Ev (fun k => spec_TimesBySeats.f k l m) rr ∧ Ev (fun k => impl_TimesBySeats.f k l m) rr ∧ rr.1.length ≤ 1048576 := by
  unfold spec_TimesBySeats.f impl_TimesBySeats.f
  rw [isParty_eq]
  cases hg : goodP l m with
  | false =>
    refine ⟨([], false), Ev.bind (paGood_ev l m hl) ?_, ?_, by simp⟩
    · rw [hg]; simp only [Bool.false_eq_true, if_false]; exact Ev.now _
    · simp only [Option.bind_some, Bool.false_eq_true, if_false]; exact Ev.now _
  | true =>
    obtain ⟨r, r1, r2, r3⟩ := bySeats_loop hg 3 1 [] (by omega) (by omega) (by simp)
    refine ⟨r, Ev.bind (paGood_ev l m hl) ?_, ?_, by omega⟩
    · rw [hg]; simp only [if_true]; exact r1
    · simp only [Option.bind_some, if_true]; exact r2
theorem FnExactTimesBySeats_pure : ∀ (l0_0 : List Int) (a0_1 : Int), goodL goodI l0_0 → goodI a0_1 → ∃ k, laws_FnExactTimesBySeats.f k l0_0 a0_1 = some true := by
  intro l0_0 a0_1 g0_0 g0_1
  obtain ⟨u0, hu0, hc⟩ := szParty_cases l0_0 a0_1 1048576 (by omega) (by omega) g0_0.1
  replace hu0 := ev_some hu0
  rcases hc with hc | ⟨b0, d0⟩
  · refine Ev.rounds ?_
    unfold laws_FnExactTimesBySeats.f
    repeat (first | exact Ev.now _ | (refine Ev.bind (by assumption) ?_; try dsimp only) | (simp only [hc, if_true, if_false, bne_self_eq_false, Bool.false_eq_true]) | refine Ev.step (fun k => laws_FnExactTimesBySeats.j0.eq_2 ..) ?_ | refine Ev.step (fun k => laws_FnExactTimesBySeats.j1.eq_2 ..) ?_ | refine Ev.step (fun k => laws_FnExactTimesBySeats.j2.eq_2 ..) ?_ | refine Ev.step (fun k => laws_FnExactTimesBySeats.j3.eq_2 ..) ?_ | refine Ev.step (fun k => laws_FnExactTimesBySeats.j4.eq_2 ..) ?_ | refine Ev.step (fun k => laws_FnExactTimesBySeats.j5.eq_2 ..) ?_ | refine Ev.step (fun k => laws_FnExactTimesBySeats.j6.eq_2 ..) ?_ | refine Ev.step (fun k => laws_FnExactTimesBySeats.j7.eq_2 ..) ?_ | refine Ev.step (fun k => laws_FnExactTimesBySeats.j8.eq_2 ..) ?_ | refine Ev.step (fun k => laws_FnExactTimesBySeats.j9.eq_2 ..) ?_)
  have nu0 : ¬ u0 < 0 := by omega
  have z0_0 : List.length l0_0 ≤ 1048576 := by omega
  have et0 := toParty_ev l0_0 a0_1 z0_0
  obtain ⟨rr, es, ei, hsm⟩ := FnExactTimesBySeats_both l0_0 a0_1 z0_0
  obtain ⟨r0, r1⟩ := rr
  dsimp only at hsm
  have s0 := hsm
  have eq0 : Ev (fun k => laws_eqIntS.f k r0 r0) true := ev_eq (eqIntS_ev r0 r0 s0) (decide_eq_true rfl)
  have ea0 : Ev (fun k => laws_eqParty.f k l0_0 a0_1 l0_0 a0_1) true := ev_eq (eqParty_ev l0_0 a0_1 l0_0 a0_1 z0_0) (decide_eq_true rfl)
  have ema0 := markParty_ev l0_0 a0_1 (1) z0_0
  have bma0_0 := mkS_bound l0_0 (1) (by omega) (by omega)
  have na0_0 : ¬ (mkS l0_0 (1)).1 < 0 := by omega
  have emr0 := markIntS_ev r0 (1) s0
  have bmr0 := mkS_bound r0 (1) (by omega) (by omega)
  have nr0 : ¬ (mkS r0 (1)).1 < 0 := by omega
  have eh0 := heldIntS_ev r0 (1) (by omega) (by omega) s0
  clear bma0_0 bmr0
  refine Ev.rounds ?_
  unfold laws_FnExactTimesBySeats.f
  repeat (first | exact Ev.now _ | (refine Ev.bind (by assumption) ?_; try dsimp only) | (simp only [nu0, na0_0, nr0, if_true, if_false, bne_self_eq_false, Bool.false_eq_true]) | refine Ev.step (fun k => laws_FnExactTimesBySeats.j0.eq_2 ..) ?_ | refine Ev.step (fun k => laws_FnExactTimesBySeats.j1.eq_2 ..) ?_ | refine Ev.step (fun k => laws_FnExactTimesBySeats.j2.eq_2 ..) ?_ | refine Ev.step (fun k => laws_FnExactTimesBySeats.j3.eq_2 ..) ?_ | refine Ev.step (fun k => laws_FnExactTimesBySeats.j4.eq_2 ..) ?_ | refine Ev.step (fun k => laws_FnExactTimesBySeats.j5.eq_2 ..) ?_ | refine Ev.step (fun k => laws_FnExactTimesBySeats.j6.eq_2 ..) ?_ | refine Ev.step (fun k => laws_FnExactTimesBySeats.j7.eq_2 ..) ?_ | refine Ev.step (fun k => laws_FnExactTimesBySeats.j8.eq_2 ..) ?_ | refine Ev.step (fun k => laws_FnExactTimesBySeats.j9.eq_2 ..) ?_)
end Go.Proofs.Ytamljjfhkolflaa.Pure
