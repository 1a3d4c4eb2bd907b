import Derived.Test.YtpobeakggacdpaaC2zx0
import Derived.Test.YtpobeakggacdpaaC2zx1
import Derived.Test.YtpobeakggacdpaaC2zx11
import Derived.Test.YtpobeakggacdpaaC2zx12
import Derived.Test.YtpobeakggacdpaaC2zx2
import Derived.Test.YtpobeakggacdpaaC2zx7
import Derived.Test.YtpobeakggacdpaaC2zH0
import Derived.Test.YtpobeakggacdpaaC2zH1
import Derived.Test.YtpobeakggacdpaaC2zQ0
import Derived.Test.YtpobeakggacdpaaC2zQ1
import Derived.Test.YtpobeakggacdpaaC2zQ2
import Derived.Test.YtpobeakggacdpaaC2zQ3
import Derived.Test.YtpobeakggacdpaaC2zQ4
namespace Go.Proofs.Ytpobeakggacdpaa.Pure
open Go.RowKit Go.Proofs.Ytpobeakggacdpaa.C2 Go.Proofs.Ytpobeakggacdpaa.H Go.Proofs.YtpobeakggacdpaaW.PrintWords Go.Proofs.YtpobeakggacdpaaW.PrintLast Go.Proofs.YtpobeakggacdpaaW.PrintMore
set_option linter.unusedVariables false
set_option linter.unusedSimpArgs false
def bump : List Int → List Int → List Int
  | [], o => o
  | x :: r, o => bump r (o.set x.toNat (wrap64 (rd o x + 1)))
def bumps : List (List Int) → List Int → List Int
  | [], o => o
  | t :: r, o => bumps r (bump t o)
theorem bump_len (t : List Int) : ∀ o : List Int, (bump t o).length = o.length := by
  induction t with
  | nil => intro o; rfl
  | cons x r ih => intro o; simp only [bump]; rw [ih]; simp
theorem bumps_len (ts : List (List Int)) : ∀ o : List Int, (bumps ts o).length = o.length := by
  induction ts with
  | nil => intro o; rfl
  | cons x r ih => intro o; simp only [bumps]; rw [ih, bump_len]
def FnExactTimesWalked_val (l : List Int) (s : Int) (ts : List (List Int)) : List Int × Bool := if goodP l s && planP l.length s ts then (bumps ts (List.replicate l.length 0), true) else ([], false)
theorem spec_walk1 (ts : List (List Int)) (b c : Int) (V : List Int × Bool) : ∀ (r pre : List Int) (o : List Int), (pre ++ r).length ≤ 9223372036854775807 → (∀ x ∈ r, 0 ≤ x ∧ x < (o.length : Int)) → Ev (fun k => spec_TimesWalked.l0 k (bump r o) ts b (wrap64 (c + 1))) V → Ev (fun k => spec_TimesWalked.l1 k o ts b c (pre ++ r) ((pre ++ r).length : Int) (pre.length : Int)) V := by
  intro r
  induction r with
  | nil =>
    intro pre o hl hi hv
    refine Ev.step (fun k => ?_) hv
    simp only [spec_TimesWalked.l1]
    rw [if_neg (nlt_end pre)]
    rfl
  | cons x r ih =>
    intro pre o hl hi hv
    have hx := hi x (by simp)
    refine Ev.step (fun k => ?_) (ih (pre ++ [x]) (o.set x.toNat (wrap64 (rd o x + 1))) (by simpa using hl) (fun y hy => by have := hi y (by simp [hy]); simpa using this) hv)
    simp only [spec_TimesWalked.l1]
    rw [if_pos (lt_mid pre x r), if_pos (zle _), if_pos (lt_mid pre x r), rd_mid, if_pos hx.1, if_pos hx.2, wr_mid pre x r hl, app_mid pre x r]
theorem spec_walk0 : ∀ (r pre : List (List Int)) (o : List Int), (pre ++ r).length ≤ 1048576 → (∀ t ∈ r, t.length ≤ 1048576) → (∀ t ∈ r, ∀ x ∈ t, 0 ≤ x ∧ x < (o.length : Int)) → Ev (fun k => spec_TimesWalked.l0 k o (pre ++ r) ((pre ++ r).length : Int) (pre.length : Int)) (bumps r o, true) := by
  intro r
  induction r with
  | nil =>
    intro pre o hl ht hi
    refine Ev.step (f := fun _ => some _) (fun k => ?_) (Ev.now _)
    simp only [spec_TimesWalked.l0]
    rw [if_neg (nlt_end pre)]
    rfl
  | cons t r ih =>
    intro pre o hl ht hi
    have h := ih (pre ++ [t]) (bump t o) (by simpa using hl) (fun y hy => ht y (by simp [hy])) (fun y hy => by rw [bump_len]; exact hi y (by simp [hy]))
    refine Ev.step (fun k => ?_) (spec_walk1 (pre ++ t :: r) ((pre ++ t :: r).length : Int) (pre.length : Int) _ t [] o (by have := ht t (by simp); simp; omega) (hi t (by simp)) ?_)
    · simp only [spec_TimesWalked.l0]
      rw [if_pos (lt_mid pre t r), if_pos (zle _), if_pos (lt_mid pre t r), rd_L2_mid]
      rfl
    · rw [wr_mid pre t r (by omega), app_mid pre t r]
      exact h
theorem spec_FnExactTimesWalked_ev (l : List Int) (s : Int) (ts : List (List Int)) (hl : l.length ≤ 1048576) (hn : n2 ts ≤ 1048576) : Ev (fun k => spec_TimesWalked.f k l s ts) (FnExactTimesWalked_val l s ts) := by
  obtain ⟨hn1, hn2⟩ := szSum_bound List.length ts (by simpa only [n2] using hn)
  unfold spec_TimesWalked.f FnExactTimesWalked_val
  refine Ev.bind (paGood_ev l s hl) ?_
  cases hg : goodP l s with
  | false =>
    simp only [Bool.false_eq_true, if_false]
    refine Ev.step (fun k => spec_TimesWalked.j0.eq_2 ..) ?_
    exact Ev.now _
  | true =>
    have h8 := goodP_len hg
    simp only [if_true, Bool.true_and]
    refine Ev.bind (paPlan_ev l s ts h8 hn1 hn2) ?_
    cases hp : planP l.length s ts with
    | false =>
      simp only [Bool.false_eq_true, if_false]
      refine Ev.step (fun k => spec_TimesWalked.j0.eq_2 ..) ?_
      exact Ev.now _
    | true =>
      refine Ev.step (fun k => spec_TimesWalked.j0.eq_2 ..) ?_
      simp only [Bool.not_true, Bool.false_eq_true, if_false, if_true, if_pos (zle l.length), if_pos (show l.length ≤ 35184372088832 by omega), Int.toNat_natCast]
      exact spec_walk0 ts [] (List.replicate l.length 0) (by simpa using hn1) hn2 (fun t ht x hx => by rw [List.length_replicate]; exact planP_in hp t ht x hx)
theorem impl_walk1 (ts : List (List Int)) (b c : Int) (V : List Int × Bool) : ∀ (r pre : List Int) (o : List Int), (pre ++ r).length ≤ 9223372036854775807 → (∀ x ∈ r, 0 ≤ x ∧ x < (o.length : Int)) → Ev (fun k => impl_TimesWalked.l0 k (bump r o) ts b (wrap64 (c + 1))) V → Ev (fun k => impl_TimesWalked.l1 k o ts b c (pre ++ r) ((pre ++ r).length : Int) (pre.length : Int)) V := by
  intro r
  induction r with
  | nil =>
    intro pre o hl hi hv
    refine Ev.step (fun k => ?_) hv
    simp only [impl_TimesWalked.l1]
    rw [if_neg (nlt_end pre)]
    rfl
  | cons x r ih =>
    intro pre o hl hi hv
    have hx := hi x (by simp)
    refine Ev.step (fun k => ?_) (ih (pre ++ [x]) (o.set x.toNat (wrap64 (rd o x + 1))) (by simpa using hl) (fun y hy => by have := hi y (by simp [hy]); simpa using this) hv)
    simp only [impl_TimesWalked.l1]
    rw [if_pos (lt_mid pre x r), if_pos (zle _), if_pos (lt_mid pre x r), rd_mid, if_pos hx.1, if_pos hx.2, wr_mid pre x r hl, app_mid pre x r]
theorem impl_walk0 : ∀ (r pre : List (List Int)) (o : List Int), (pre ++ r).length ≤ 1048576 → (∀ t ∈ r, t.length ≤ 1048576) → (∀ t ∈ r, ∀ x ∈ t, 0 ≤ x ∧ x < (o.length : Int)) → Ev (fun k => impl_TimesWalked.l0 k o (pre ++ r) ((pre ++ r).length : Int) (pre.length : Int)) (bumps r o, true) := by
  intro r
  induction r with
  | nil =>
    intro pre o hl ht hi
    refine Ev.step (f := fun _ => some _) (fun k => ?_) (Ev.now _)
    simp only [impl_TimesWalked.l0]
    rw [if_neg (nlt_end pre)]
    rfl
  | cons t r ih =>
    intro pre o hl ht hi
    have h := ih (pre ++ [t]) (bump t o) (by simpa using hl) (fun y hy => ht y (by simp [hy])) (fun y hy => by rw [bump_len]; exact hi y (by simp [hy]))
    refine Ev.step (fun k => ?_) (impl_walk1 (pre ++ t :: r) ((pre ++ t :: r).length : Int) (pre.length : Int) _ t [] o (by have := ht t (by simp); simp; omega) (hi t (by simp)) ?_)
    · simp only [impl_TimesWalked.l0]
      rw [if_pos (lt_mid pre t r), if_pos (zle _), if_pos (lt_mid pre t r), rd_L2_mid]
      rfl
    · rw [wr_mid pre t r (by omega), app_mid pre t r]
      exact h
theorem impl_FnExactTimesWalked_ev (l : List Int) (s : Int) (ts : List (List Int)) (hl : l.length ≤ 1048576) (hn : n2 ts ≤ 1048576) : Ev (fun k => impl_TimesWalked.f k l s ts) (FnExactTimesWalked_val l s ts) := by
  obtain ⟨hn1, hn2⟩ := szSum_bound List.length ts (by simpa only [n2] using hn)
  unfold impl_TimesWalked.f FnExactTimesWalked_val
  refine Ev.bind (ev_some (isParty_eq l s)) ?_
  cases hg : goodP l s with
  | false =>
    simp only [Bool.false_eq_true, if_false]
    refine Ev.step (fun k => impl_TimesWalked.j0.eq_2 ..) ?_
    exact Ev.now _
  | true =>
    have h8 := goodP_len hg
    simp only [if_true, Bool.true_and]
    refine Ev.bind (isPlan_ev l s ts h8 hn1 hn2) ?_
    cases hp : planP l.length s ts with
    | false =>
      simp only [Bool.false_eq_true, if_false]
      refine Ev.step (fun k => impl_TimesWalked.j0.eq_2 ..) ?_
      exact Ev.now _
    | true =>
      refine Ev.step (fun k => impl_TimesWalked.j0.eq_2 ..) ?_
      simp only [Bool.not_true, Bool.false_eq_true, if_false, if_true, if_pos (zle l.length), if_pos (show l.length ≤ 35184372088832 by omega), Int.toNat_natCast]
      exact impl_walk0 ts [] (List.replicate l.length 0) (by simpa using hn1) hn2 (fun t ht x hx => by rw [List.length_replicate]; exact planP_in hp t ht x hx)
theorem FnExactTimesWalked_small (l : List Int) (s : Int) (ts : List (List Int)) (hl : l.length ≤ 1048576) (hn : n2 ts ≤ 1048576) : (FnExactTimesWalked_val l s ts).1.length ≤ 1048576 := by
  unfold FnExactTimesWalked_val
  split
  · simp [bumps_len]; omega
  · simp
theorem FnExactTimesWalked_pure : ∀ (l0_0 : List Int) (a0_1 : Int) (l1 : List (List Int)), goodL goodI l0_0 → goodI a0_1 → goodL (goodL goodI) l1 → ∃ k, laws_FnExactTimesWalked.f k l0_0 a0_1 l1 = some true := by
  intro l0_0 a0_1 l1 g0_0 g0_1 g1
  obtain ⟨u0, hu0, hc⟩ := szParty_cases l0_0 a0_1 1048576 (by omega) (by omega) g0_0.1
  replace hu0 := ev_some hu0
  rcases hc with hc | ⟨b0, d0⟩
  · refine Ev.rounds ?_
    unfold laws_FnExactTimesWalked.f
    repeat (first | exact Ev.now _ | (refine Ev.bind (by assumption) ?_; try dsimp only) | (simp only [hc, if_true, if_false, bne_self_eq_false, Bool.false_eq_true]) | refine Ev.step (fun k => laws_FnExactTimesWalked.j0.eq_2 ..) ?_ | refine Ev.step (fun k => laws_FnExactTimesWalked.j1.eq_2 ..) ?_ | refine Ev.step (fun k => laws_FnExactTimesWalked.j2.eq_2 ..) ?_ | refine Ev.step (fun k => laws_FnExactTimesWalked.j3.eq_2 ..) ?_ | refine Ev.step (fun k => laws_FnExactTimesWalked.j4.eq_2 ..) ?_ | refine Ev.step (fun k => laws_FnExactTimesWalked.j5.eq_2 ..) ?_ | refine Ev.step (fun k => laws_FnExactTimesWalked.j6.eq_2 ..) ?_ | refine Ev.step (fun k => laws_FnExactTimesWalked.j7.eq_2 ..) ?_ | refine Ev.step (fun k => laws_FnExactTimesWalked.j8.eq_2 ..) ?_ | refine Ev.step (fun k => laws_FnExactTimesWalked.j9.eq_2 ..) ?_ | refine Ev.step (fun k => laws_FnExactTimesWalked.j10.eq_2 ..) ?_ | refine Ev.step (fun k => laws_FnExactTimesWalked.j11.eq_2 ..) ?_)
  have nu0 : ¬ u0 < 0 := by omega
  obtain ⟨u1, hu1, hc⟩ := szIntSS_cases l1 u0 b0 (by omega) (good2 g1)
  rcases hc with hc | ⟨b1, d1⟩
  · refine Ev.rounds ?_
    unfold laws_FnExactTimesWalked.f
    repeat (first | exact Ev.now _ | (refine Ev.bind (by assumption) ?_; try dsimp only) | (simp only [hc, nu0, if_true, if_false, bne_self_eq_false, Bool.false_eq_true]) | refine Ev.step (fun k => laws_FnExactTimesWalked.j0.eq_2 ..) ?_ | refine Ev.step (fun k => laws_FnExactTimesWalked.j1.eq_2 ..) ?_ | refine Ev.step (fun k => laws_FnExactTimesWalked.j2.eq_2 ..) ?_ | refine Ev.step (fun k => laws_FnExactTimesWalked.j3.eq_2 ..) ?_ | refine Ev.step (fun k => laws_FnExactTimesWalked.j4.eq_2 ..) ?_ | refine Ev.step (fun k => laws_FnExactTimesWalked.j5.eq_2 ..) ?_ | refine Ev.step (fun k => laws_FnExactTimesWalked.j6.eq_2 ..) ?_ | refine Ev.step (fun k => laws_FnExactTimesWalked.j7.eq_2 ..) ?_ | refine Ev.step (fun k => laws_FnExactTimesWalked.j8.eq_2 ..) ?_ | refine Ev.step (fun k => laws_FnExactTimesWalked.j9.eq_2 ..) ?_ | refine Ev.step (fun k => laws_FnExactTimesWalked.j10.eq_2 ..) ?_ | refine Ev.step (fun k => laws_FnExactTimesWalked.j11.eq_2 ..) ?_)
  have nu1 : ¬ u1 < 0 := by omega
  have z0_0 : List.length l0_0 ≤ 1048576 := by omega
  have z1 : n2 l1 ≤ 1048576 := by omega
  have et0 := toParty_ev l0_0 a0_1 z0_0
  have et1 := toIntSS_ev l1 z1
  have es := spec_FnExactTimesWalked_ev l0_0 a0_1 l1 z0_0 z1
  have ei := impl_FnExactTimesWalked_ev l0_0 a0_1 l1 z0_0 z1
  have hsm := FnExactTimesWalked_small l0_0 a0_1 l1 z0_0 z1
  generalize FnExactTimesWalked_val l0_0 a0_1 l1 = rr at *
  obtain ⟨r0, r1⟩ := rr
  dsimp only at hsm
  have s0 := hsm
  have eq0 : Ev (fun k => laws_eqIntS.f k r0 r0) true := ev_eq (eqIntS_ev r0 r0 s0) (decide_eq_true rfl)
  have ea0 : Ev (fun k => laws_eqParty.f k l0_0 a0_1 l0_0 a0_1) true := ev_eq (eqParty_ev l0_0 a0_1 l0_0 a0_1 z0_0) (decide_eq_true rfl)
  have ea1 : Ev (fun k => laws_eqIntSS.f k l1 l1) true := ev_eq (eqIntSS_ev l1 l1 z1) (decide_eq_true rfl)
  have ema0 := markParty_ev l0_0 a0_1 (1) z0_0
  have bma0_0 := mkS_bound l0_0 (1) (by omega) (by omega)
  have na0_0 : ¬ (mkS l0_0 (1)).1 < 0 := by omega
  have ema1 := ev_some (markIntSS_ev l1 ((mkS l0_0 (1)).1))
  have bma1 := mkSS_bound l1 ((mkS l0_0 (1)).1) (by omega) (by omega)
  have na1 : ¬ (mkSS l1 ((mkS l0_0 (1)).1)).1 < 0 := by omega
  have emr0 := markIntS_ev r0 (1) s0
  have bmr0 := mkS_bound r0 (1) (by omega) (by omega)
  have nr0 : ¬ (mkS r0 (1)).1 < 0 := by omega
  have eh0 := heldIntS_ev r0 (1) (by omega) (by omega) s0
  clear bma0_0 bma1 bmr0
  refine Ev.rounds ?_
  unfold laws_FnExactTimesWalked.f
  repeat (first | exact Ev.now _ | (refine Ev.bind (by assumption) ?_; try dsimp only) | (simp only [nu0, nu1, na0_0, na1, nr0, if_true, if_false, bne_self_eq_false, Bool.false_eq_true]) | refine Ev.step (fun k => laws_FnExactTimesWalked.j0.eq_2 ..) ?_ | refine Ev.step (fun k => laws_FnExactTimesWalked.j1.eq_2 ..) ?_ | refine Ev.step (fun k => laws_FnExactTimesWalked.j2.eq_2 ..) ?_ | refine Ev.step (fun k => laws_FnExactTimesWalked.j3.eq_2 ..) ?_ | refine Ev.step (fun k => laws_FnExactTimesWalked.j4.eq_2 ..) ?_ | refine Ev.step (fun k => laws_FnExactTimesWalked.j5.eq_2 ..) ?_ | refine Ev.step (fun k => laws_FnExactTimesWalked.j6.eq_2 ..) ?_ | refine Ev.step (fun k => laws_FnExactTimesWalked.j7.eq_2 ..) ?_ | refine Ev.step (fun k => laws_FnExactTimesWalked.j8.eq_2 ..) ?_ | refine Ev.step (fun k => laws_FnExactTimesWalked.j9.eq_2 ..) ?_ | refine Ev.step (fun k => laws_FnExactTimesWalked.j10.eq_2 ..) ?_ | refine Ev.step (fun k => laws_FnExactTimesWalked.j11.eq_2 ..) ?_)
end Go.Proofs.Ytpobeakggacdpaa.Pure
