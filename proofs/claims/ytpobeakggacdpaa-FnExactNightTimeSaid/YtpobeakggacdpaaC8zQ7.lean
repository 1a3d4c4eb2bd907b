import Derived.Test.YtpobeakggacdpaaC8zx0
import Derived.Test.YtpobeakggacdpaaC8zx11
import Derived.Test.YtpobeakggacdpaaC8zx12
import Derived.Test.YtpobeakggacdpaaC8zx13
import Derived.Test.YtpobeakggacdpaaC8zx14
import Derived.Test.YtpobeakggacdpaaC8zx15
import Derived.Test.YtpobeakggacdpaaC8zx4
import Derived.Test.YtpobeakggacdpaaC8zx5
import Derived.Test.YtpobeakggacdpaaC8zx6
import Derived.Test.YtpobeakggacdpaaC8zx7
import Derived.Test.YtpobeakggacdpaaC8zx8
import Derived.Test.YtpobeakggacdpaaC8zH0
import Derived.Test.YtpobeakggacdpaaC8zH1
import Derived.Test.YtpobeakggacdpaaC8zQ0
import Derived.Test.YtpobeakggacdpaaC8zQ1
import Derived.Test.YtpobeakggacdpaaC8zQ2
import Derived.Test.YtpobeakggacdpaaC8zQ3
import Derived.Test.YtpobeakggacdpaaC8zQ4
import Derived.Test.YtpobeakggacdpaaC8zQ5
import Derived.Test.YtpobeakggacdpaaC8zQ6
namespace Go.Proofs.Ytpobeakggacdpaa.Pure
open Go.RowKit Go.Proofs.Ytpobeakggacdpaa.C8 Go.Proofs.Ytpobeakggacdpaa.H Go.Proofs.YtpobeakggacdpaaW.PrintWords Go.Proofs.YtpobeakggacdpaaW.PrintLast Go.Proofs.YtpobeakggacdpaaW.PrintMore
set_option linter.unusedVariables false
set_option linter.unusedSimpArgs false
def aft1 (ov : List Bool) : List Int → List Bool → List Bool
  | [], o => o
  | x :: r, o => aft1 ov r (o.set x.toNat (!rdOf false ov x))
def aft (ov : List Bool) : List (List Int) → List Bool → List Bool
  | [], o => o
  | g :: r, o => aft ov r (aft1 ov g o)
def aftT (ov : List Bool) : List (List Int) → Int → Int
  | [], c => c
  | g :: r, c => aftT ov r (if sideP ov g then wrap64 (c - 1) else wrap64 (c + 1))
theorem aft1_len (ov : List Bool) : ∀ (g : List Int) (o : List Bool), (aft1 ov g o).length = o.length := by
  intro g
  induction g with
  | nil => intro o; rfl
  | cons x r ih => intro o; simp only [aft1]; rw [ih]; simp
theorem aft_len (ov : List Bool) : ∀ (R : List (List Int)) (o : List Bool), (aft ov R o).length = o.length := by
  intro R
  induction R with
  | nil => intro o; rfl
  | cons x r ih => intro o; simp only [aft]; rw [ih, aft1_len]
theorem toAfter_in (X : List (List Int)) (L i : Int) (ov : List Bool) (c0 c : Int) (V : List Bool × Int) : ∀ (r pre : List Int) (o : List Bool), (pre ++ r).length ≤ 1048576 → (∀ x ∈ r, 0 ≤ x ∧ x < (ov.length : Int)) → o.length = ov.length → Ev (fun k => spec_toAfter.l0 k X L (wrap64 (i + 1)) ov c0 (aft1 ov r o) c) V → Ev (fun k => spec_toAfter.l1 k X L i (pre ++ r) ((pre ++ r).length : Int) (pre.length : Int) ov c0 o c) V := by
  intro r
  induction r with
  | nil =>
    intro pre o hl hi ho hv
    refine Ev.step (fun k => ?_) hv
    simp only [spec_toAfter.l1]
    rw [if_neg (nlt_end pre)]
    rfl
  | cons x r ih =>
    intro pre o hl hi ho hv
    have hx := hi x (by simp)
    refine Ev.step (fun k => ?_) (ih (pre ++ [x]) (o.set x.toNat (!rdOf false ov x)) (by simpa using hl) (fun y hy => hi y (by simp [hy])) (by simpa using ho) hv)
    simp only [spec_toAfter.l1]
    rw [if_pos (lt_mid pre x r), if_pos (zle _), if_pos (lt_mid pre x r), rd_mid, if_pos hx.1, if_pos hx.2, if_pos (by rw [ho]; exact hx.2), wr_mid pre x r (by omega), app_mid pre x r]
theorem toAfter_loop (ov : List Bool) (c0 : Int) : ∀ (r pre : List (List Int)) (o : List Bool) (c : Int), (pre ++ r).length ≤ 1048576 → (∀ g ∈ r, 0 < g.length ∧ g.length ≤ 1048576 ∧ ∀ x ∈ g, 0 ≤ x ∧ x < (ov.length : Int)) → o.length = ov.length → Ev (fun k => spec_toAfter.l0 k (pre ++ r) ((pre ++ r).length : Int) (pre.length : Int) ov c0 o c) (aft ov r o, aftT ov r c) := by
  intro r
  induction r with
  | nil =>
    intro pre o c hl hg ho
    refine Ev.step (f := fun _ => some _) (fun k => ?_) (Ev.now _)
    simp only [spec_toAfter.l0]
    rw [if_neg (nlt_end pre)]
    rfl
  | cons g r ih =>
    intro pre o c hl hg ho
    obtain ⟨h1, h2, h3⟩ := hg g (by simp)
    have h0 : 0 ≤ rd g 0 ∧ rd g 0 < (ov.length : Int) := by
      match g, h1, h3 with
      | x :: g, _, h3 => exact h3 x (by simp)
    have hn := ih (pre ++ [g]) (aft1 ov g o) (if sideP ov g then wrap64 (c - 1) else wrap64 (c + 1)) (by simpa using hl) (fun y hy => hg y (by simp [hy])) (by rw [aft1_len]; exact ho)
    refine Ev.step (f := fun k => spec_toAfter.j1 k g (pre ++ g :: r) ((pre ++ g :: r).length : Int) (pre.length : Int) ov c0 o (if sideP ov g then wrap64 (c - 1) else wrap64 (c + 1))) (fun k => ?_) (Ev.step (fun k => spec_toAfter.j1.eq_2 ..) (toAfter_in (pre ++ g :: r) _ (pre.length : Int) ov c0 _ _ g [] o (by simpa using h2) h3 ho ?_))
    · simp only [spec_toAfter.l0]
      rw [if_pos (lt_mid pre g r), if_pos (zle _), if_pos (lt_mid pre g r), rd_L2_mid, if_pos (by omega), if_pos h0.1, if_pos h0.2]
      show (if sideP ov g = true then _ else _) = _
      cases sideP ov g <;> rfl
    · rw [wr_mid pre g r (by omega), app_mid pre g r]
      exact hn
theorem toAfter_ev (ov : List Bool) (c : Int) (R : List (List Int)) (ho : ov.length ≤ 1048576) (hR : R.length ≤ 1048576) (hg : ∀ g ∈ R, 0 < g.length ∧ g.length ≤ 1048576 ∧ ∀ x ∈ g, 0 ≤ x ∧ x < (ov.length : Int)) : Ev (fun k => spec_toAfter.f k ov c R) (aft ov R ov, aftT ov R c) := by
  unfold spec_toAfter.f
  simp only [Option.bind_some, List.nil_append, List.length_nil, Nat.zero_add, if_pos (show ov.length < 140737488355328 by omega)]
  exact toAfter_loop ov c R [] ov c (by simpa using hR) hg rfl
theorem after_in (X : List (List Int)) (L i : Int) (ov : List Bool) (c0 c : Int) (V : List Bool × Int) : ∀ (r pre : List Int) (o : List Bool), (pre ++ r).length ≤ 1048576 → (∀ x ∈ r, 0 ≤ x ∧ x < (ov.length : Int)) → o.length = ov.length → Ev (fun k => impl_Camp_after.l0 k X L (wrap64 (i + 1)) ov c0 (aft1 ov r o) c) V → Ev (fun k => impl_Camp_after.l1 k X L i (pre ++ r) ((pre ++ r).length : Int) (pre.length : Int) ov c0 o c) V := by
  intro r
  induction r with
  | nil =>
    intro pre o hl hi ho hv
    refine Ev.step (fun k => ?_) hv
    simp only [impl_Camp_after.l1]
    rw [if_neg (nlt_end pre)]
    rfl
  | cons x r ih =>
    intro pre o hl hi ho hv
    have hx := hi x (by simp)
    refine Ev.step (fun k => ?_) (ih (pre ++ [x]) (o.set x.toNat (!rdOf false ov x)) (by simpa using hl) (fun y hy => hi y (by simp [hy])) (by simpa using ho) hv)
    simp only [impl_Camp_after.l1]
    rw [if_pos (lt_mid pre x r), if_pos (zle _), if_pos (lt_mid pre x r), rd_mid, if_pos hx.1, if_pos hx.2, if_pos (by rw [ho]; exact hx.2), wr_mid pre x r (by omega), app_mid pre x r]
theorem after_loop (ov : List Bool) (c0 : Int) : ∀ (r pre : List (List Int)) (o : List Bool) (c : Int), (pre ++ r).length ≤ 1048576 → (∀ g ∈ r, 0 < g.length ∧ g.length ≤ 1048576 ∧ ∀ x ∈ g, 0 ≤ x ∧ x < (ov.length : Int)) → o.length = ov.length → Ev (fun k => impl_Camp_after.l0 k (pre ++ r) ((pre ++ r).length : Int) (pre.length : Int) ov c0 o c) (aft ov r o, aftT ov r c) := by
  intro r
  induction r with
  | nil =>
    intro pre o c hl hg ho
    refine Ev.step (f := fun _ => some _) (fun k => ?_) (Ev.now _)
    simp only [impl_Camp_after.l0]
    rw [if_neg (nlt_end pre)]
    rfl
  | cons g r ih =>
    intro pre o c hl hg ho
    obtain ⟨h1, h2, h3⟩ := hg g (by simp)
    have h0 : 0 ≤ rd g 0 ∧ rd g 0 < (ov.length : Int) := by
      match g, h1, h3 with
      | x :: g, _, h3 => exact h3 x (by simp)
    have hn := ih (pre ++ [g]) (aft1 ov g o) (if sideP ov g then wrap64 (c - 1) else wrap64 (c + 1)) (by simpa using hl) (fun y hy => hg y (by simp [hy])) (by rw [aft1_len]; exact ho)
    refine Ev.step (f := fun k => impl_Camp_after.l1 k (pre ++ g :: r) ((pre ++ g :: r).length : Int) (pre.length : Int) g (g.length : Int) 0 ov c0 o (if sideP ov g then wrap64 (c - 1) else wrap64 (c + 1))) (fun k => ?_) (after_in (pre ++ g :: r) _ (pre.length : Int) ov c0 _ _ g [] o (by simpa using h2) h3 ho ?_)
    · simp only [impl_Camp_after.l0]
      rw [if_pos (lt_mid pre g r), if_pos (zle _), if_pos (lt_mid pre g r), rd_L2_mid, if_pos (by omega), if_pos h0.1, if_pos h0.2]
      show (impl_bit.f (sideP ov g)).bind _ = _
      unfold impl_bit.f
      cases sideP ov g
      · rw [if_neg (by simp), Option.bind_some, show wrap64 (1 - wrap64 (2 * 0)) = 1 by decide +kernel]; rfl
      · rw [if_pos rfl, Option.bind_some, show wrap64 (1 - wrap64 (2 * 1)) = -1 by decide +kernel]; rfl
    · rw [wr_mid pre g r (by omega), app_mid pre g r]
      exact hn
theorem after_ev (ov : List Bool) (c : Int) (R : List (List Int)) (ho : ov.length ≤ 1048576) (hR : R.length ≤ 1048576) (hg : ∀ g ∈ R, 0 < g.length ∧ g.length ≤ 1048576 ∧ ∀ x ∈ g, 0 ≤ x ∧ x < (ov.length : Int)) : Ev (fun k => impl_Camp_after.f k ov c R) (aft ov R ov, aftT ov R c) := by
  unfold impl_Camp_after.f
  refine Ev.bind (a := ov) (ev_some (by unfold slices_Clone_bool_bool.f; rw [if_pos (by omega)])) ?_
  exact after_loop ov c R [] ov c (by simpa using hR) hg rfl
theorem cI_in {n : Nat} {s t : Int} {ov : List Bool} {c : Int} : ∀ (R : List (List Int)) (p : Option (List Int)), cI n s t ov c p R = true → ∀ g ∈ R, tripP n s g = true := by
  intro R
  induction R with
  | nil => intro p h g hg; cases hg
  | cons g r ih =>
    intro p h
    simp only [cI, Bool.and_eq_true] at h
    intro q hq
    rcases List.mem_cons.1 hq with rfl | hq
    · exact h.1
    · exact ih _ h.2.2.2.2 q hq
theorem roundP_in {n : Nat} {s t : Int} {ov : List Bool} {c : Int} {R : List (List Int)} (h : roundP n s t ov c R = true) : ∀ g ∈ R, tripP n s g = true := by
  unfold roundP at h
  simp only [Bool.and_eq_true] at h
  exact cI_in R none h.2
theorem cS_fin (ov : List Bool) : ∀ (R : List (List Int)) (p : Option (List Int)) (a b x : Int) (N : Nat), cS ov p a b R = true → -(N : Int) ≤ a → a ≤ N → -(N : Int) ≤ b → b ≤ N → -(N : Int) ≤ x → x ≤ N → N + R.length ≤ 1000 → ∃ fa fb, 0 ≤ fa ∧ fa ≤ a ∧ 0 ≤ fb ∧ fb ≤ b ∧ aftT ov R x = x + (a - fa) - (b - fb) := by
  intro R
  induction R with
  | nil =>
    intro p a b x N h _ _ _ _ _ _ _
    simp only [cS, Bool.and_eq_true, decide_eq_true_eq] at h
    exact ⟨a, b, h.1, Int.le_refl _, h.2, Int.le_refl _, by simp only [aftT]; omega⟩
  | cons g r ih =>
    intro p a b x N h h1 h2 h3 h4 h5 h6 h7
    simp only [List.length_cons] at h7
    simp only [cS, Bool.and_eq_true] at h
    have h8 := h.2.2
    simp only [aftT]
    cases hd : sideP ov g with
    | true =>
      rw [hd] at h8
      simp only [if_true] at h8 ⊢
      rw [wr_id (by omega) (by omega)] at h8
      rw [wr_id (by omega) (by omega)]
      obtain ⟨fa, fb, k1, k2, k3, k4, k5⟩ := ih (some g) a (b - 1) (x - 1) (N + 1) h8 (by omega) (by omega) (by omega) (by omega) (by omega) (by omega) (by omega)
      exact ⟨fa, fb, k1, k2, k3, by omega, by omega⟩
    | false =>
      rw [hd] at h8
      simp only [Bool.false_eq_true, if_false] at h8 ⊢
      rw [wr_id (by omega) (by omega)] at h8
      rw [wr_id (by omega) (by omega)]
      obtain ⟨fa, fb, k1, k2, k3, k4, k5⟩ := ih (some g) (a - 1) b (x + 1) (N + 1) h8 (by omega) (by omega) (by omega) (by omega) (by omega) (by omega) (by omega)
      exact ⟨fa, fb, k1, by omega, k3, k4, by omega⟩
theorem aftT_ok {n : Nat} {s t : Int} {ov : List Bool} {c : Int} {R : List (List Int)} (ht : 1 ≤ t ∧ t ≤ 2) (hc : 0 ≤ c ∧ c ≤ t) (h : roundP n s t ov c R = true) : 0 ≤ aftT ov R c ∧ aftT ov R c ≤ t := by
  have h2 : (R.length : Int) ≤ t := by
    unfold roundP at h
    simp only [Bool.and_eq_true, inB, decide_eq_true_eq] at h
    omega
  rw [← round_same n s t ov c R ht hc] at h
  simp only [Bool.and_eq_true] at h
  have hw : wrap64 (t - c) = t - c := wr_id (by omega) (by omega)
  rw [hw] at h
  obtain ⟨fa, fb, k1, k2, k3, k4, k5⟩ := cS_fin ov R none (t - c) c c 5 h.2 (by omega) (by omega) (by omega) (by omega) (by omega) (by omega) (by omega)
  omega
def playN (n : Nat) (s t : Int) : List (List (List Int)) → List Bool → Int → Option (List Bool × Int)
  | [], o, c => some (o, c)
  | R :: rs, o, c => if roundP n s t o c R then playN n s t rs (aft o R o) (aftT o R c) else none
theorem n3_in {Rs : List (List (List Int))} (h : n3 Rs ≤ 1048576) : Rs.length ≤ 1048576 ∧ ∀ R ∈ Rs, R.length ≤ 1048576 ∧ ∀ g ∈ R, g.length ≤ 1048576 := by
  obtain ⟨h1, h2⟩ := szSum_bound n2 Rs (by simpa only [n3] using h)
  exact ⟨h1, fun R hR => szSum_bound List.length R (by have := h2 R hR; simpa only [n2] using this)⟩
theorem round_gs {n : Nat} {s t : Int} {ov : List Bool} {c : Int} {R : List (List Int)} (h : roundP n s t ov c R = true) (ho : ov.length = n) (hs : ∀ g ∈ R, g.length ≤ 1048576) : ∀ g ∈ R, 0 < g.length ∧ g.length ≤ 1048576 ∧ ∀ x ∈ g, 0 ≤ x ∧ x < (ov.length : Int) := by
  intro g hg
  have := roundP_in h g hg
  exact ⟨trip_pos this, hs g hg, by rw [ho]; exact tripP_in this⟩
theorem toPlay_loop (l : List Int) (s t : Int) (hl : l.length ≤ 40) (ht : 1 ≤ t ∧ t ≤ 2) : ∀ (r pre : List (List (List Int))) (o : List Bool) (c : Int), (pre ++ r).length ≤ 1048576 → (∀ R ∈ r, R.length ≤ 1048576 ∧ ∀ g ∈ R, g.length ≤ 1048576) → o.length = l.length → 0 ≤ c ∧ c ≤ t → ∃ v, Ev (fun k => spec_toPlay.l0 k (pre ++ r) ((pre ++ r).length : Int) (pre.length : Int) l s t o c) v ∧ (match playN l.length s t r o c with | none => v.2.2 = false | some (o, c) => v = (o, c, true)) := by
  intro r
  induction r with
  | nil =>
    intro pre o c hn hr ho hc
    refine ⟨(o, c, true), Ev.step (f := fun _ => some _) (fun k => ?_) (Ev.now _), rfl⟩
    simp only [spec_toPlay.l0]
    rw [if_neg (nlt_end pre)]
  | cons R r ih =>
    intro pre o c hn hr ho hc
    obtain ⟨h1, h2⟩ := hr R (by simp)
    have he := toCan_ev l s t o c R hl ho h1 h2 ht hc
    have hu : ∀ k, spec_toPlay.l0 (k + 1) (pre ++ R :: r) ((pre ++ R :: r).length : Int) (pre.length : Int) l s t o c = (spec_toCan.f k l s t o c R).bind fun t696 => (if t696 = true then ((spec_toAfter.f k o c R).bind fun bt697 => (spec_toPlay.l0 k (pre ++ R :: r) ((pre ++ R :: r).length : Int) (wrap64 ((pre.length : Int) + 1)) l s t bt697.1 bt697.2)) else (some (o, c, false))) := by
      intro k
      simp only [spec_toPlay.l0]
      rw [if_pos (lt_mid pre R r), if_pos (zle _), if_pos (lt_mid pre R r), rd_L3_mid]
    cases q : roundP l.length s t o c R with
    | false =>
      rw [q] at he
      refine ⟨(o, c, false), Ev.step hu (Ev.bind he (Ev.now _)), ?_⟩
      simp [playN, q]
    | true =>
      rw [q] at he
      have hgs := round_gs q ho h2
      obtain ⟨v, hv, hm⟩ := ih (pre ++ [R]) (aft o R o) (aftT o R c) (by simpa using hn) (fun y hy => hr y (by simp [hy])) (by rw [aft_len, ho]) (aftT_ok ht hc q)
      refine ⟨v, Ev.step hu (Ev.bind he ?_), ?_⟩
      · simp only [if_true]
        refine Ev.bind (toAfter_ev o c R (by omega) h1 hgs) ?_
        dsimp only
        rw [wr_mid pre R r (by omega), app_mid pre R r]
        exact hv
      · simp only [playN, q, if_true]; exact hm
theorem played_loop (l : List Int) (s t : Int) (hl : l.length ≤ 40) : ∀ (r pre : List (List (List Int))) (o : List Bool) (c : Int), (pre ++ r).length ≤ 1048576 → (∀ R ∈ r, R.length ≤ 1048576 ∧ ∀ g ∈ R, g.length ≤ 1048576) → o.length = l.length → ∃ v, Ev (fun k => impl_Night_played.l0 k (pre ++ r) ((pre ++ r).length : Int) (pre.length : Int) l s t o c) v ∧ (match playN l.length s t r o c with | none => v.2.2 = false | some (o, c) => v = (o, c, true)) := by
  intro r
  induction r with
  | nil =>
    intro pre o c hn hr ho
    refine ⟨(o, c, true), Ev.step (f := fun _ => some _) (fun k => ?_) (Ev.now _), rfl⟩
    simp only [impl_Night_played.l0]
    rw [if_neg (nlt_end pre)]
  | cons R r ih =>
    intro pre o c hn hr ho
    obtain ⟨h1, h2⟩ := hr R (by simp)
    have he := isRound_ev l s t o c R (by omega) ho h1 h2
    have hu : ∀ k, impl_Night_played.l0 (k + 1) (pre ++ R :: r) ((pre ++ R :: r).length : Int) (pre.length : Int) l s t o c = (impl_Night_isRound.f k l s t o c R).bind fun t696 => (if t696 = true then ((impl_Camp_after.f k o c R).bind fun bt697 => (impl_Night_played.l0 k (pre ++ R :: r) ((pre ++ R :: r).length : Int) (wrap64 ((pre.length : Int) + 1)) l s t bt697.1 bt697.2)) else (some (([] : List Bool), 0, false))) := by
      intro k
      simp only [impl_Night_played.l0]
      rw [if_pos (lt_mid pre R r), if_pos (zle _), if_pos (lt_mid pre R r), rd_L3_mid]
    cases q : roundP l.length s t o c R with
    | false =>
      rw [q] at he
      refine ⟨([], 0, false), Ev.step hu (Ev.bind he (Ev.now _)), ?_⟩
      simp [playN, q]
    | true =>
      rw [q] at he
      have hgs := round_gs q ho h2
      obtain ⟨v, hv, hm⟩ := ih (pre ++ [R]) (aft o R o) (aftT o R c) (by simpa using hn) (fun y hy => hr y (by simp [hy])) (by rw [aft_len, ho])
      refine ⟨v, Ev.step hu (Ev.bind he ?_), ?_⟩
      · simp only [if_true]
        refine Ev.bind (after_ev o c R (by omega) h1 hgs) ?_
        dsimp only
        rw [wr_mid pre R r (by omega), app_mid pre R r]
        exact hv
      · simp only [playN, q, if_true]; exact hm
def planN (n : Nat) (s t : Int) (Rs : List (List (List Int))) : Bool := if 30 < Rs.length then false else match playN n s t Rs (List.replicate n false) 0 with | none => false | some (o, _) => o.all id
theorem not_any_false (o : List Bool) : (!o.any fun y => false == y) = o.all id := by
  induction o with
  | nil => rfl
  | cons x o ih => cases x <;> simp_all
theorem playN_in {n : Nat} {s t : Int} : ∀ (Rs : List (List (List Int))) (o : List Bool) (c : Int) (r : List Bool × Int), playN n s t Rs o c = some r → ∀ R ∈ Rs, ∀ g ∈ R, ∀ x ∈ g, 0 ≤ x ∧ x < (n : Int) := by
  intro Rs
  induction Rs with
  | nil => intro o c r h R hR; cases hR
  | cons R rs ih =>
    intro o c r h
    simp only [playN] at h
    by_cases q : roundP n s t o c R = true
    · rw [if_pos q] at h
      intro R' hR'
      rcases List.mem_cons.1 hR' with rfl | hR'
      · exact fun g hg => tripP_in (roundP_in q g hg)
      · exact ih _ _ _ h R' hR'
    · rw [if_neg q] at h; cases h
theorem planN_in {n : Nat} {s t : Int} {Rs : List (List (List Int))} (h : planN n s t Rs = true) : ∀ R ∈ Rs, ∀ g ∈ R, ∀ x ∈ g, 0 ≤ x ∧ x < (n : Int) := by
  unfold planN at h
  by_cases c : 30 < Rs.length
  · rw [if_pos c] at h; cases h
  · rw [if_neg c] at h
    cases hp : playN n s t Rs (List.replicate n false) 0 with
    | none => rw [hp] at h; cases h
    | some r => exact playN_in Rs _ _ r hp
theorem playN_len {n : Nat} {s t : Int} : ∀ (Rs : List (List (List Int))) (o : List Bool) (c : Int) (o' : List Bool) (c' : Int), playN n s t Rs o c = some (o', c') → o'.length = o.length := by
  intro Rs
  induction Rs with
  | nil => intro o c o' c' h; cases h; rfl
  | cons R rs ih =>
    intro o c o' c' h
    simp only [playN] at h
    by_cases q : roundP n s t o c R = true
    · rw [if_pos q] at h
      rw [ih _ _ _ _ h, aft_len]
    · rw [if_neg q] at h; cases h
theorem toOver_loop : ∀ (r pre : List Bool), (pre ++ r).length ≤ 1048576 → Ev (fun k => spec_toOver.l0 k (pre ++ r) ((pre ++ r).length : Int) (pre.length : Int)) (r.all id) := by
  intro r
  induction r with
  | nil =>
    intro pre hl
    refine Ev.step (f := fun _ => some true) (fun k => ?_) (Ev.now _)
    simp only [spec_toOver.l0]
    rw [if_neg (nlt_end pre)]
  | cons x r ih =>
    intro pre hl
    cases x with
    | true =>
      refine Ev.step (fun k => ?_) (ev_eq (ih (pre ++ [true]) (by simpa using hl)) (by simp))
      simp only [spec_toOver.l0]
      rw [if_pos (lt_mid pre true r), if_pos (zle _), if_pos (lt_mid pre true r), rdOf_mid, if_pos rfl, wr_mid pre true r (by omega), app_mid pre true r]
    | false =>
      refine Ev.step (f := fun _ => some false) (fun k => ?_) (ev_eq (Ev.now _) (by simp))
      simp only [spec_toOver.l0]
      rw [if_pos (lt_mid pre false r), if_pos (zle _), if_pos (lt_mid pre false r), rdOf_mid, if_neg (by simp)]
theorem toPlan_ev (l : List Int) (s t : Int) (Rs : List (List (List Int))) (hl : l.length ≤ 40) (ht : 1 ≤ t ∧ t ≤ 2) (hn : n3 Rs ≤ 1048576) : Ev (fun k => spec_toPlan.f k l s t Rs) (planN l.length s t Rs) := by
  obtain ⟨hn1, hn2⟩ := n3_in hn
  unfold spec_toPlan.f planN
  by_cases c : 30 < Rs.length
  · simp only [if_pos c, if_pos (show (Rs.length : Int) > 30 by omega)]
    exact Ev.now _
  · simp only [if_neg c, if_neg (show ¬ (Rs.length : Int) > 30 by omega), if_pos (zle l.length), Int.toNat_natCast, if_pos (show l.length ≤ 281474976710656 by omega)]
    obtain ⟨v, hv, hm⟩ := toPlay_loop l s t hl ht Rs [] (List.replicate l.length false) 0 (by simpa using hn1) hn2 (by simp) ⟨Int.le_refl _, by omega⟩
    have hf : Ev (fun k => spec_toPlay.f k l s t (List.replicate l.length false) 0 Rs) v := by
      unfold spec_toPlay.f
      simp only [Option.bind_some, List.nil_append, List.length_nil, Nat.zero_add, List.length_replicate, if_pos (show l.length < 140737488355328 by omega)]
      exact hv
    refine Ev.bind hf ?_
    cases hp : playN l.length s t Rs (List.replicate l.length false) 0 with
    | none =>
      rw [hp] at hm
      simp only at hm
      rw [hm]
      exact Ev.now _
    | some r =>
      obtain ⟨o, d⟩ := r
      rw [hp] at hm
      simp only at hm
      subst hm
      have ho := playN_len Rs _ _ o d hp
      rw [List.length_replicate] at ho
      simp only [if_true]
      exact Ev.bind (g := fun k => spec_toOver.f k o d) (toOver_loop o [] (by simp; omega)) (Ev.now _)
theorem isPlanN_ev (l : List Int) (s t : Int) (Rs : List (List (List Int))) (hl : l.length ≤ 40) (hn : n3 Rs ≤ 1048576) : Ev (fun k => impl_Night_isPlan.f k l s t Rs) (planN l.length s t Rs) := by
  obtain ⟨hn1, hn2⟩ := n3_in hn
  unfold impl_Night_isPlan.f planN
  have hfc : impl_Night_firstCamp.f l s t = some (List.replicate l.length false, 0) := by
    unfold impl_Night_firstCamp.f
    rw [if_pos (zle _), if_pos (show ((l.length : Int)).toNat ≤ 281474976710656 by omega), Int.toNat_natCast]
  refine Ev.bind (ev_some hfc) ?_
  dsimp only
  by_cases c : 30 < Rs.length
  · simp only [if_pos c]
    refine Ev.bind (g := fun k => impl_Night_played.f k l s t (List.replicate l.length false) 0 Rs) (a := ([], 0, false)) ?_ (Ev.now _)
    unfold impl_Night_played.f
    simp only [if_pos (show (Rs.length : Int) > 30 by omega)]
    exact Ev.now _
  · simp only [if_neg c]
    obtain ⟨v, hv, hm⟩ := played_loop l s t hl Rs [] (List.replicate l.length false) 0 (by simpa using hn1) hn2 (by simp)
    have hf : Ev (fun k => impl_Night_played.f k l s t (List.replicate l.length false) 0 Rs) v := by
      unfold impl_Night_played.f
      simp only [if_neg (show ¬ (Rs.length : Int) > 30 by omega)]
      exact Ev.bind (after_ev (List.replicate l.length false) 0 [] (by simp; omega) (by simp) (by simp)) hv
    refine Ev.bind hf ?_
    cases hp : playN l.length s t Rs (List.replicate l.length false) 0 with
    | none =>
      rw [hp] at hm
      simp only at hm
      rw [hm]
      exact Ev.now _
    | some r =>
      obtain ⟨o, d⟩ := r
      rw [hp] at hm
      simp only at hm
      subst hm
      have ho := playN_len Rs _ _ o d hp
      rw [List.length_replicate] at ho
      simp only [if_true]
      exact Ev.bind (containsB_ev o false (by omega)) (ev_eq (Ev.now _) (not_any_false o))
end Go.Proofs.Ytpobeakggacdpaa.Pure
