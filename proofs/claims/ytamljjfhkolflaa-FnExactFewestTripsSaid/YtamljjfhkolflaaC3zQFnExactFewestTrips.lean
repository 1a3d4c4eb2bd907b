import Derived.Test.YtamljjfhkolflaaC3zx0
import Derived.Test.YtamljjfhkolflaaC3zx1
import Derived.Test.YtamljjfhkolflaaC3zx10
import Derived.Test.YtamljjfhkolflaaC3zx11
import Derived.Test.YtamljjfhkolflaaC3zx6
import Derived.Test.YtamljjfhkolflaaC3zH0
import Derived.Test.YtamljjfhkolflaaC3zH1
import Derived.Test.YtamljjfhkolflaaC3zQ0
import Derived.Test.YtamljjfhkolflaaC3zQ1
import Derived.Test.YtamljjfhkolflaaC3zQ2
import Derived.Test.YtamljjfhkolflaaC3zQ3
import Derived.Test.YtamljjfhkolflaaC3zQ4
import Derived.Test.YtamljjfhkolflaaC3zQ5
import Derived.Test.YtamljjfhkolflaaC3zQS
import Derived.Test.YtamljjfhkolflaaC3zQG
import Derived.Test.YtamljjfhkolflaaC3zQN
import Derived.Test.YtamljjfhkolflaaC3zQP
import Derived.Test.YtamljjfhkolflaaC3zQT
import Derived.Test.YtamljjfhkolflaaC3zQD
import Derived.Test.YtamljjfhkolflaaC3zQE
namespace Go.Proofs.Ytamljjfhkolflaa.Pure
open Go.RowKit Go.Proofs.Ytamljjfhkolflaa.C3 Go.Proofs.Ytamljjfhkolflaa.H Go.Proofs.YtamljjfhkolflaaW.PrintWords Go.Proofs.YtamljjfhkolflaaW.PrintLast Go.Proofs.YtamljjfhkolflaaW.PrintMore
set_option linter.unusedVariables false
set_option linter.unusedSimpArgs false
theorem even_good {l : List Int} {m : Int} (h : goodP l m = true) : goodP (List.replicate l.length 1) m = true := by
  unfold goodP at h ⊢
  simp only [Bool.and_eq_true] at h ⊢
  refine ⟨⟨by rw [List.length_replicate]; exact h.1.1, List.all_eq_true.2 fun x hx => ?_⟩, h.2⟩
  rw [(List.mem_replicate.1 hx).2]
  decide
theorem even_cst {l : List Int} {m : Int} (h : goodP l m = true) {ov : List Bool} {tr : Bool} {t : List Int} (hl : ov.length = l.length) (ht : t ∈ tripsP m ov tr) : cstP true (List.replicate l.length 1) t = cstP false l t := by
  have h1 := (cst_bound (even_good h) true (by rw [List.length_replicate]; exact hl) ht).1
  have h2 := (mxs_le (List.replicate l.length 1) 1 t 0 (by omega) (fun x hx => by
    have hi := trip_in ht x hx
    have := rd_in (List.replicate l.length 1) x hi.1 (by rw [List.length_replicate]; omega)
    rw [(List.mem_replicate.1 this).2]
    exact Int.le_refl _)).1
  have e1 : cstP true (List.replicate l.length 1) t = mxs (List.replicate l.length 1) t 0 := rfl
  have e2 : cstP false l t = 1 := rfl
  rw [e2]
  omega
theorem even_edg {l : List Int} {m : Int} (h : goodP l m = true) (u v : Int) (c : Nat) : EdgP enI true (List.replicate l.length 1) m u v c ↔ EdgP enI false l m u v c := by
  constructor
  · rintro ⟨ov, tr, t, ho, hu, ht, hv, hc⟩
    rw [List.length_replicate] at ho
    exact ⟨ov, tr, t, ho, hu, ht, hv, by rw [← even_cst h ho ht]; exact hc⟩
  · rintro ⟨ov, tr, t, ho, hu, ht, hv, hc⟩
    exact ⟨ov, tr, t, by rw [List.length_replicate]; exact ho, hu, ht, hv, by rw [even_cst h ho ht]; exact hc⟩
theorem ev_uniq {α : Type} {g : Nat → Option α} {a b : α} (h1 : Ev g a) (h2 : Ev g b) : a = b := by
  obtain ⟨K1, e1⟩ := h1
  obtain ⟨K2, e2⟩ := h2
  have q1 := e1 (max K1 K2) (by omega)
  have q2 := e2 (max K1 K2) (by omega)
  rw [q1] at q2
  exact Option.some.inj q2
theorem fewest_both {l : List Int} {m : Int} (h : goodP l m = true) : ∃ (d : List Int), Ev (fun k => impl_Party_costs.f k l m false) (d, decide (0 ≤ rd d 0)) ∧ Ev (fun k => spec_seLeast.f k (List.replicate l.length 1) m) (rd d 0) := by
  have hn := (goodP_times h).2.1
  obtain ⟨d, d1, d2, d3⟩ := costs_ev h false
  obtain ⟨d', e1, e2, e3⟩ := least_both (even_good h)
  obtain ⟨d'', g1, g2, g3⟩ := costs_ev (even_good h) true
  obtain rfl : d' = d'' := (Prod.mk.inj (ev_uniq e1 g1)).1
  have hF := en_facts hn (List.replicate l.length false) false (by simp)
  have q1 := d3 (enI (List.replicate l.length false) false) hF.1 hF.2.1
  have q2 := g3 (enI (List.replicate l.length false) false) hF.1 (by rw [List.length_replicate]; exact hF.2.1)
  rw [(last_en hn).2] at q1 q2
  rw [List.length_replicate] at q2
  have : rd d' 0 = rd d 0 := IsLeast.uniq (q2.iff (fun n => ⟨H.Way.imp_ (fun u v c he => (even_edg h u v c).1 he) (fun _ hs => hs), H.Way.imp_ (fun u v c he => (even_edg h u v c).2 he) (fun _ hs => hs)⟩)) q1
  rw [this] at e2
  exact ⟨d, d1, e2⟩
theorem even_loop (m : Int) (N : Nat) (hN : N ≤ 100) (x : Int) (he : Ev (fun k => spec_seLeast.f k (List.replicate N 1) m) x) : ∀ (n i : Nat), i + n = N → Ev (fun k => spec_FewestTrips.l0 k (N : Int) (i : Int) (List.replicate i 1) m) (if x < 0 then (0, false) else (x, true)) := by
  intro n
  induction n with
  | zero =>
    intro i hi
    obtain rfl : i = N := by omega
    refine Ev.step (fun k => spec_FewestTrips.l0.eq_2 ..) ?_
    simp only [if_neg (show ¬ (i : Int) < (i : Int) by omega)]
    refine Ev.bind he ?_
    by_cases h0 : x < 0
    · simp only [if_pos h0]; exact Ev.now _
    · simp only [if_neg h0]; exact Ev.now _
  | succ n ih =>
    intro i hi
    refine Ev.step (fun k => spec_FewestTrips.l0.eq_2 ..) ?_
    rw [wr_id (a := (i : Int) + 1) (by omega) (by omega)]
    simp only [if_pos (show (i : Int) < (N : Int) by omega), List.length_replicate, if_pos (show i < 17592186044416 by omega)]
    have := ih (i + 1) (by omega)
    rw [List.replicate_succ'] at this
    exact this
theorem FnExactFewestTrips_both (l : List Int) (m : Int) (hl : l.length ≤ 1048576) : ∃ rr : Int × Bool, Ev (fun k => spec_FewestTrips.f k l m) rr ∧ Ev (fun k => impl_FewestTrips.f k l m) rr ∧ True := by
  unfold spec_FewestTrips.f impl_FewestTrips.f
  rw [isParty_eq]
  cases hg : goodP l m with
  | false =>
    refine ⟨(0, false), Ev.bind (paGood_ev l m hl) ?_, ?_, trivial⟩
    · rw [hg]; simp only [Bool.false_eq_true, if_false]; exact Ev.now _
    · simp only [Option.bind_some, Bool.false_eq_true, if_false]; exact Ev.now _
  | true =>
    obtain ⟨d, d1, d2⟩ := fewest_both hg
    have hn := (goodP_times hg).2.1
    refine ⟨if rd d 0 < 0 then (0, false) else (rd d 0, true), Ev.bind (paGood_ev l m hl) ?_, ?_, trivial⟩
    · rw [hg]
      simp only [if_true]
      exact even_loop m l.length (by omega) _ d2 l.length 0 (by omega)
    · simp only [Option.bind_some, if_true]
      refine Ev.bind d1 ?_
      dsimp only
      by_cases h0 : rd d 0 < 0
      · rw [if_pos h0]; simp only [decide_eq_false (show ¬ 0 ≤ rd d 0 by omega), Bool.false_eq_true, if_false]; exact Ev.now _
      · rw [if_neg h0]; simp only [decide_eq_true (show 0 ≤ rd d 0 by omega), if_true]; exact Ev.now _
theorem FnExactFewestTrips_pure : ∀ (l0_0 : List Int) (a0_1 : Int), goodL goodI l0_0 → goodI a0_1 → ∃ k, laws_FnExactFewestTrips.f k l0_0 a0_1 = some true := by
  intro l0_0 a0_1 g0_0 g0_1
  obtain ⟨u0, hu0, hc⟩ := szParty_cases l0_0 a0_1 1048576 (by omega) (by omega) g0_0.1
  replace hu0 := ev_some hu0
  rcases hc with hc | ⟨b0, d0⟩
  · refine Ev.rounds ?_
    unfold laws_FnExactFewestTrips.f
    repeat (first | exact Ev.now _ | (refine Ev.bind (by assumption) ?_; try dsimp only) | (simp only [hc, if_true, if_false, bne_self_eq_false, Bool.false_eq_true]) | refine Ev.step (fun k => laws_FnExactFewestTrips.j0.eq_2 ..) ?_ | refine Ev.step (fun k => laws_FnExactFewestTrips.j1.eq_2 ..) ?_ | refine Ev.step (fun k => laws_FnExactFewestTrips.j2.eq_2 ..) ?_)
  have nu0 : ¬ u0 < 0 := by omega
  have z0_0 : List.length l0_0 ≤ 1048576 := by omega
  have et0 := toParty_ev l0_0 a0_1 z0_0
  obtain ⟨rr, es, ei, hsm⟩ := FnExactFewestTrips_both l0_0 a0_1 z0_0
  obtain ⟨r0, r1⟩ := rr
  have ea0 : Ev (fun k => laws_eqParty.f k l0_0 a0_1 l0_0 a0_1) true := ev_eq (eqParty_ev l0_0 a0_1 l0_0 a0_1 z0_0) (decide_eq_true rfl)
  refine Ev.rounds ?_
  unfold laws_FnExactFewestTrips.f
  repeat (first | exact Ev.now _ | (refine Ev.bind (by assumption) ?_; try dsimp only) | (simp only [nu0, if_true, if_false, bne_self_eq_false, Bool.false_eq_true]) | refine Ev.step (fun k => laws_FnExactFewestTrips.j0.eq_2 ..) ?_ | refine Ev.step (fun k => laws_FnExactFewestTrips.j1.eq_2 ..) ?_ | refine Ev.step (fun k => laws_FnExactFewestTrips.j2.eq_2 ..) ?_)
end Go.Proofs.Ytamljjfhkolflaa.Pure
