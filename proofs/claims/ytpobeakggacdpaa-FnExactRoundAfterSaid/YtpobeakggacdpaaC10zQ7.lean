import Derived.Test.YtpobeakggacdpaaC10zx0
import Derived.Test.YtpobeakggacdpaaC10zx11
import Derived.Test.YtpobeakggacdpaaC10zx12
import Derived.Test.YtpobeakggacdpaaC10zx6
import Derived.Test.YtpobeakggacdpaaC10zH0
import Derived.Test.YtpobeakggacdpaaC10zH1
import Derived.Test.YtpobeakggacdpaaC10zQ0
import Derived.Test.YtpobeakggacdpaaC10zQ1
import Derived.Test.YtpobeakggacdpaaC10zQ2
import Derived.Test.YtpobeakggacdpaaC10zQ3
import Derived.Test.YtpobeakggacdpaaC10zQ4
import Derived.Test.YtpobeakggacdpaaC10zQ5
import Derived.Test.YtpobeakggacdpaaC10zQ6
namespace Go.Proofs.Ytpobeakggacdpaa.Pure
open Go.RowKit Go.Proofs.Ytpobeakggacdpaa.C10 Go.Proofs.Ytpobeakggacdpaa.H Go.Proofs.YtpobeakggacdpaaW.PrintWords Go.Proofs.YtpobeakggacdpaaW.PrintLast Go.Proofs.YtpobeakggacdpaaW.PrintMore
set_option linter.unusedVariables false
set_option linter.unusedSimpArgs false
def aft1 (ov : List Bool) : List Int → List Bool → List Bool
  | [], o => o
  | x :: r, o => aft1 ov r (o.set x.toNat (!rdOf false ov x))
def aft (ov : List Bool) : List (List Int) → List Bool → List Bool
  | [], o => o
  | g :: r, o => aft ov r (aft1 ov g o)
def aftT (ov : List Bool) : List (List Int) → Int → Int
  | [], c => c
  | g :: r, c => aftT ov r (if sideP ov g then wrap64 (c - 1) else wrap64 (c + 1))
theorem aft1_len (ov : List Bool) : ∀ (g : List Int) (o : List Bool), (aft1 ov g o).length = o.length := by
  intro g
  induction g with
  | nil => intro o; rfl
  | cons x r ih => intro o; simp only [aft1]; rw [ih]; simp
theorem aft_len (ov : List Bool) : ∀ (R : List (List Int)) (o : List Bool), (aft ov R o).length = o.length := by
  intro R
  induction R with
  | nil => intro o; rfl
  | cons x r ih => intro o; simp only [aft]; rw [ih, aft1_len]
theorem toAfter_in (X : List (List Int)) (L i : Int) (ov : List Bool) (c0 c : Int) (V : List Bool × Int) : ∀ (r pre : List Int) (o : List Bool), (pre ++ r).length ≤ 1048576 → (∀ x ∈ r, 0 ≤ x ∧ x < (ov.length : Int)) → o.length = ov.length → Ev (fun k => spec_toAfter.l0 k X L (wrap64 (i + 1)) ov c0 (aft1 ov r o) c) V → Ev (fun k => spec_toAfter.l1 k X L i (pre ++ r) ((pre ++ r).length : Int) (pre.length : Int) ov c0 o c) V := by
  intro r
  induction r with
  | nil =>
    intro pre o hl hi ho hv
    refine Ev.step (fun k => ?_) hv
    simp only [spec_toAfter.l1]
    rw [if_neg (nlt_end pre)]
    rfl
  | cons x r ih =>
    intro pre o hl hi ho hv
    have hx := hi x (by simp)
    refine Ev.step (fun k => ?_) (ih (pre ++ [x]) (o.set x.toNat (!rdOf false ov x)) (by simpa using hl) (fun y hy => hi y (by simp [hy])) (by simpa using ho) hv)
    simp only [spec_toAfter.l1]
    rw [if_pos (lt_mid pre x r), if_pos (zle _), if_pos (lt_mid pre x r), rd_mid, if_pos hx.1, if_pos hx.2, if_pos (by rw [ho]; exact hx.2), wr_mid pre x r (by omega), app_mid pre x r]
theorem toAfter_loop (ov : List Bool) (c0 : Int) : ∀ (r pre : List (List Int)) (o : List Bool) (c : Int), (pre ++ r).length ≤ 1048576 → (∀ g ∈ r, 0 < g.length ∧ g.length ≤ 1048576 ∧ ∀ x ∈ g, 0 ≤ x ∧ x < (ov.length : Int)) → o.length = ov.length → Ev (fun k => spec_toAfter.l0 k (pre ++ r) ((pre ++ r).length : Int) (pre.length : Int) ov c0 o c) (aft ov r o, aftT ov r c) := by
  intro r
  induction r with
  | nil =>
    intro pre o c hl hg ho
    refine Ev.step (f := fun _ => some _) (fun k => ?_) (Ev.now _)
    simp only [spec_toAfter.l0]
    rw [if_neg (nlt_end pre)]
    rfl
  | cons g r ih =>
    intro pre o c hl hg ho
    obtain ⟨h1, h2, h3⟩ := hg g (by simp)
    have h0 : 0 ≤ rd g 0 ∧ rd g 0 < (ov.length : Int) := by
      match g, h1, h3 with
      | x :: g, _, h3 => exact h3 x (by simp)
    have hn := ih (pre ++ [g]) (aft1 ov g o) (if sideP ov g then wrap64 (c - 1) else wrap64 (c + 1)) (by simpa using hl) (fun y hy => hg y (by simp [hy])) (by rw [aft1_len]; exact ho)
    refine Ev.step (f := fun k => spec_toAfter.j1 k g (pre ++ g :: r) ((pre ++ g :: r).length : Int) (pre.length : Int) ov c0 o (if sideP ov g then wrap64 (c - 1) else wrap64 (c + 1))) (fun k => ?_) (Ev.step (fun k => spec_toAfter.j1.eq_2 ..) (toAfter_in (pre ++ g :: r) _ (pre.length : Int) ov c0 _ _ g [] o (by simpa using h2) h3 ho ?_))
    · simp only [spec_toAfter.l0]
      rw [if_pos (lt_mid pre g r), if_pos (zle _), if_pos (lt_mid pre g r), rd_L2_mid, if_pos (by omega), if_pos h0.1, if_pos h0.2]
      show (if sideP ov g = true then _ else _) = _
      cases sideP ov g <;> rfl
    · rw [wr_mid pre g r (by omega), app_mid pre g r]
      exact hn
theorem toAfter_ev (ov : List Bool) (c : Int) (R : List (List Int)) (ho : ov.length ≤ 1048576) (hR : R.length ≤ 1048576) (hg : ∀ g ∈ R, 0 < g.length ∧ g.length ≤ 1048576 ∧ ∀ x ∈ g, 0 ≤ x ∧ x < (ov.length : Int)) : Ev (fun k => spec_toAfter.f k ov c R) (aft ov R ov, aftT ov R c) := by
  unfold spec_toAfter.f
  simp only [Option.bind_some, List.nil_append, List.length_nil, Nat.zero_add, if_pos (show ov.length < 140737488355328 by omega)]
  exact toAfter_loop ov c R [] ov c (by simpa using hR) hg rfl
theorem after_in (X : List (List Int)) (L i : Int) (ov : List Bool) (c0 c : Int) (V : List Bool × Int) : ∀ (r pre : List Int) (o : List Bool), (pre ++ r).length ≤ 1048576 → (∀ x ∈ r, 0 ≤ x ∧ x < (ov.length : Int)) → o.length = ov.length → Ev (fun k => impl_Camp_after.l0 k X L (wrap64 (i + 1)) ov c0 (aft1 ov r o) c) V → Ev (fun k => impl_Camp_after.l1 k X L i (pre ++ r) ((pre ++ r).length : Int) (pre.length : Int) ov c0 o c) V := by
  intro r
  induction r with
  | nil =>
    intro pre o hl hi ho hv
    refine Ev.step (fun k => ?_) hv
    simp only [impl_Camp_after.l1]
    rw [if_neg (nlt_end pre)]
    rfl
  | cons x r ih =>
    intro pre o hl hi ho hv
    have hx := hi x (by simp)
    refine Ev.step (fun k => ?_) (ih (pre ++ [x]) (o.set x.toNat (!rdOf false ov x)) (by simpa using hl) (fun y hy => hi y (by simp [hy])) (by simpa using ho) hv)
    simp only [impl_Camp_after.l1]
    rw [if_pos (lt_mid pre x r), if_pos (zle _), if_pos (lt_mid pre x r), rd_mid, if_pos hx.1, if_pos hx.2, if_pos (by rw [ho]; exact hx.2), wr_mid pre x r (by omega), app_mid pre x r]
theorem after_loop (ov : List Bool) (c0 : Int) : ∀ (r pre : List (List Int)) (o : List Bool) (c : Int), (pre ++ r).length ≤ 1048576 → (∀ g ∈ r, 0 < g.length ∧ g.length ≤ 1048576 ∧ ∀ x ∈ g, 0 ≤ x ∧ x < (ov.length : Int)) → o.length = ov.length → Ev (fun k => impl_Camp_after.l0 k (pre ++ r) ((pre ++ r).length : Int) (pre.length : Int) ov c0 o c) (aft ov r o, aftT ov r c) := by
  intro r
  induction r with
  | nil =>
    intro pre o c hl hg ho
    refine Ev.step (f := fun _ => some _) (fun k => ?_) (Ev.now _)
    simp only [impl_Camp_after.l0]
    rw [if_neg (nlt_end pre)]
    rfl
  | cons g r ih =>
    intro pre o c hl hg ho
    obtain ⟨h1, h2, h3⟩ := hg g (by simp)
    have h0 : 0 ≤ rd g 0 ∧ rd g 0 < (ov.length : Int) := by
      match g, h1, h3 with
      | x :: g, _, h3 => exact h3 x (by simp)
    have hn := ih (pre ++ [g]) (aft1 ov g o) (if sideP ov g then wrap64 (c - 1) else wrap64 (c + 1)) (by simpa using hl) (fun y hy => hg y (by simp [hy])) (by rw [aft1_len]; exact ho)
    refine Ev.step (f := fun k => impl_Camp_after.l1 k (pre ++ g :: r) ((pre ++ g :: r).length : Int) (pre.length : Int) g (g.length : Int) 0 ov c0 o (if sideP ov g then wrap64 (c - 1) else wrap64 (c + 1))) (fun k => ?_) (after_in (pre ++ g :: r) _ (pre.length : Int) ov c0 _ _ g [] o (by simpa using h2) h3 ho ?_)
    · simp only [impl_Camp_after.l0]
      rw [if_pos (lt_mid pre g r), if_pos (zle _), if_pos (lt_mid pre g r), rd_L2_mid, if_pos (by omega), if_pos h0.1, if_pos h0.2]
      show (impl_bit.f (sideP ov g)).bind _ = _
      unfold impl_bit.f
      cases sideP ov g
      · rw [if_neg (by simp), Option.bind_some, show wrap64 (1 - wrap64 (2 * 0)) = 1 by decide +kernel]; rfl
      · rw [if_pos rfl, Option.bind_some, show wrap64 (1 - wrap64 (2 * 1)) = -1 by decide +kernel]; rfl
    · rw [wr_mid pre g r (by omega), app_mid pre g r]
      exact hn
theorem after_ev (ov : List Bool) (c : Int) (R : List (List Int)) (ho : ov.length ≤ 1048576) (hR : R.length ≤ 1048576) (hg : ∀ g ∈ R, 0 < g.length ∧ g.length ≤ 1048576 ∧ ∀ x ∈ g, 0 ≤ x ∧ x < (ov.length : Int)) : Ev (fun k => impl_Camp_after.f k ov c R) (aft ov R ov, aftT ov R c) := by
  unfold impl_Camp_after.f
  refine Ev.bind (a := ov) (ev_some (by unfold slices_Clone_bool_bool.f; rw [if_pos (by omega)])) ?_
  exact after_loop ov c R [] ov c (by simpa using hR) hg rfl
theorem cI_in {n : Nat} {s t : Int} {ov : List Bool} {c : Int} : ∀ (R : List (List Int)) (p : Option (List Int)), cI n s t ov c p R = true → ∀ g ∈ R, tripP n s g = true := by
  intro R
  induction R with
  | nil => intro p h g hg; cases hg
  | cons g r ih =>
    intro p h
    simp only [cI, Bool.and_eq_true] at h
    intro q hq
    rcases List.mem_cons.1 hq with rfl | hq
    · exact h.1
    · exact ih _ h.2.2.2.2 q hq
theorem roundP_in {n : Nat} {s t : Int} {ov : List Bool} {c : Int} {R : List (List Int)} (h : roundP n s t ov c R = true) : ∀ g ∈ R, tripP n s g = true := by
  unfold roundP at h
  simp only [Bool.and_eq_true] at h
  exact cI_in R none h.2
theorem round_gs {n : Nat} {s t : Int} {ov : List Bool} {c : Int} {R : List (List Int)} (h : roundP n s t ov c R = true) (ho : ov.length = n) (hs : ∀ g ∈ R, g.length ≤ 1048576) : ∀ g ∈ R, 0 < g.length ∧ g.length ≤ 1048576 ∧ ∀ x ∈ g, 0 ≤ x ∧ x < (ov.length : Int) := by
  intro g hg
  have := roundP_in h g hg
  exact ⟨trip_pos this, hs g hg, by rw [ho]; exact tripP_in this⟩
end Go.Proofs.Ytpobeakggacdpaa.Pure
