import Derived.Test.YtibdeohiimjocaaC8zx0
import Derived.Test.YtibdeohiimjocaaC8zx3
import Derived.Test.YtibdeohiimjocaaC8zx5
import Derived.Test.YtibdeohiimjocaaC8zH0
import Derived.Test.YtibdeohiimjocaaC8zH1
import Derived.Test.YtibdeohiimjocaaC8zQ0
import Derived.Test.YtibdeohiimjocaaC8zQV
import Derived.Test.YtibdeohiimjocaaC8zQW
import Derived.Test.YtibdeohiimjocaaC8zQX
namespace Go.Proofs.Ytibdeohiimjocaa.Pure
open Go.RowKit Go.Proofs.Ytibdeohiimjocaa.C8 Go.Proofs.Ytibdeohiimjocaa.H Go.Proofs.YtibdeohiimjocaaW.PrintWords Go.Proofs.YtibdeohiimjocaaW.PrintLast Go.Proofs.YtibdeohiimjocaaW.PrintMore
set_option linter.unusedVariables false
set_option linter.unusedSimpArgs false
theorem seats_loop (a0 a1 : Int) : ∀ (n : Nat) (s : Int), s + n = 5 → 0 ≤ s → ∃ r, Ev (fun k => seatsG k a0 a1 n s) r ∧ Ev (fun k => spec_SeatsForGuards.l0 k a0 a1 s) r := by
  intro n
  induction n with
  | zero =>
    intro s hs h0
    refine ⟨(0, false), Ev.now _, Ev.step (f := fun _ => some (0, false)) (fun k => ?_) (Ev.now _)⟩
    rw [spec_SeatsForGuards.l0, if_neg (by omega)]
  | succ n ih =>
    intro s hs h0
    obtain ⟨r, i1, i2⟩ := ih (s + 1) (by omega) (by omega)
    obtain ⟨d, ok, m, h1, h2, h3⟩ := guards_all a0 a1 s
    refine ⟨if ok = true then (s, true) else r, ?_, ?_⟩
    · simp only [seatsG]
      refine Ev.bind h1 ?_
      cases ok with
      | false => exact i1
      | true => exact Ev.now _
    · refine Ev.step (fun k => spec_SeatsForGuards.l0.eq_2 ..) ?_
      rw [wr_id (a := s + 1) (by omega) (by omega)]
      simp only [if_pos (show s ≤ 4 by omega)]
      refine Ev.bind h3 ?_
      cases ok with
      | false => exact i2
      | true => exact Ev.now _
theorem FnExactSeatsForGuards_pure : ∀ (a0 a1 : Int), goodI a0 → goodI a1 → ∃ k, laws_FnExactSeatsForGuards.f k a0 a1 = some true := by
  intro a0 a1 _ _
  obtain ⟨r, h1, h2⟩ := seats_loop a0 a1 4 1 (by omega) (by omega)
  refine Ev.rounds ?_
  unfold laws_FnExactSeatsForGuards.f spec_SeatsForGuards.f impl_SeatsForGuards.f
  refine Ev.bind h2 (Ev.bind h1 ?_)
  simp only [if_true, bne_self_eq_false, Bool.false_eq_true, if_false]
  exact Ev.now _
end Go.Proofs.Ytibdeohiimjocaa.Pure
