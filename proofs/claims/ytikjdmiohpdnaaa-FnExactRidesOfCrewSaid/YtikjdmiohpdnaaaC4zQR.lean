import Derived.Test.YtikjdmiohpdnaaaC4zx0
import Derived.Test.YtikjdmiohpdnaaaC4zx7
import Derived.Test.YtikjdmiohpdnaaaC4zH0
import Derived.Test.YtikjdmiohpdnaaaC4zH1
import Derived.Test.YtikjdmiohpdnaaaC4zQ0
import Derived.Test.YtikjdmiohpdnaaaC4zQ1
import Derived.Test.YtikjdmiohpdnaaaC4zQ2
import Derived.Test.YtikjdmiohpdnaaaC4zQ3
import Derived.Test.YtikjdmiohpdnaaaC4zQ4
import Derived.Test.YtikjdmiohpdnaaaC4zQ5
import Derived.Test.YtikjdmiohpdnaaaC4zQ8
import Derived.Test.YtikjdmiohpdnaaaC4zQ9
import Derived.Test.YtikjdmiohpdnaaaC4zQS
import Derived.Test.YtikjdmiohpdnaaaC4zQG
namespace Go.Proofs.Ytikjdmiohpdnaaa.Pure
open Go.RowKit Go.Proofs.Ytikjdmiohpdnaaa.C4 Go.Proofs.Ytikjdmiohpdnaaa.H Go.Proofs.YtikjdmiohpdnaaaW.PrintWords Go.Proofs.YtikjdmiohpdnaaaW.PrintLast Go.Proofs.YtikjdmiohpdnaaaW.PrintMore
set_option linter.unusedVariables false
set_option linter.unusedSimpArgs false
theorem grpsF_most {m m' : Int} : ∀ (r l : List Int), (l.length : Int) + r.length ≤ m → (l.length : Int) + r.length ≤ m' → grpsF m r l = grpsF m' r l := by
  intro r
  induction r with
  | nil => intro l _ _; rfl
  | cons x r ih =>
    intro l h h'
    simp only [List.length_cons] at h h'
    simp only [grpsF]
    rw [if_pos (by omega), if_pos (by omega), ih (l ++ [x]) (by simp; omega) (by simp; omega), ih l (by omega) (by omega)]
theorem grpsF_sub (m : Int) : ∀ (r l : List Int), ∀ g ∈ grpsF m r l, ∃ t, g = l ++ t ∧ t.Sublist r ∧ t ≠ [] := by
  intro r
  induction r with
  | nil => intro l g hg; simp [grpsF] at hg
  | cons x r ih =>
    intro l g hg
    simp only [grpsF] at hg
    split at hg
    · rcases List.mem_cons.1 hg with rfl | hg
      · exact ⟨[x], rfl, by simp, by simp⟩
      · rcases List.mem_append.1 hg with hg | hg
        · obtain ⟨t, rfl, h1, h2⟩ := ih _ g hg
          exact ⟨x :: t, by simp, h1.cons_cons x, by simp⟩
        · obtain ⟨t, rfl, h1, h2⟩ := ih _ g hg
          exact ⟨t, rfl, h1.cons x, h2⟩
    · cases hg
theorem sideP_in (b : Bool) : ∀ (r : List Bool) (i : Nat), ∀ x ∈ sideP b r i, (i : Int) ≤ x ∧ x < (i : Int) + r.length ∧ r.getD (x.toNat - i) false = b := by
  intro r
  induction r with
  | nil => intro i x hx; simp [sideP] at hx
  | cons y r ih =>
    intro i x hx
    have hrec : x ∈ sideP b r (i + 1) → (i : Int) ≤ x ∧ x < (i : Int) + (y :: r).length ∧ (y :: r).getD (x.toNat - i) false = b := by
      intro hx
      obtain ⟨h1, h2, h3⟩ := ih (i + 1) x hx
      refine ⟨by omega, by simp only [List.length_cons]; omega, ?_⟩
      have : x.toNat - i = (x.toNat - (i + 1)) + 1 := by omega
      rw [this, List.getD_cons_succ]
      exact h3
    simp only [sideP] at hx
    split at hx
    · rename_i hy
      rcases List.mem_cons.1 hx with rfl | hx
      · refine ⟨Int.le_refl _, by simp only [List.length_cons]; omega, ?_⟩
        have : ((i : Int)).toNat - i = 0 := by omega
        rw [this, List.getD_cons_zero]
        simpa using hy
      · exact hrec hx
    · exact hrec hx
theorem sideP_lt (b : Bool) : ∀ (r : List Bool) (i : Nat), (sideP b r i).Pairwise (· < ·) := by
  intro r
  induction r with
  | nil => intro i; simp [sideP]
  | cons y r ih =>
    intro i
    simp only [sideP]
    split
    · rw [List.pairwise_cons]
      exact ⟨fun x hx => by have := (sideP_in b r (i + 1) x hx).1; omega, ih (i + 1)⟩
    · exact ih (i + 1)
theorem risF_of (p : Int) : ∀ r : List Int, (p :: r).Pairwise (· < ·) → risF p r = true := by
  intro r
  induction r generalizing p with
  | nil => intro _; rfl
  | cons y r ih =>
    intro h
    rw [List.pairwise_cons] at h
    simp only [risF, Bool.and_eq_true, decide_eq_true_eq]
    exact ⟨h.1 y (by simp), ih y h.2⟩
theorem risP_of {r : List Int} (h : r.Pairwise (· < ·)) : risP r = true := by
  cases r with
  | nil => rfl
  | cons x r => exact risF_of x r h
theorem group_of {m : Int} {b : Bool} {st : List Bool} {g : List Int} (hg : g ∈ grpsF m (sideP b st 0) []) : (∀ x ∈ g, 0 ≤ x ∧ x < (st.length : Int) ∧ rdOf false st x = b) ∧ risP g = true ∧ g ≠ [] := by
  obtain ⟨t, ht, h1, h2⟩ := grpsF_sub m _ _ g hg
  rw [List.nil_append] at ht
  subst ht
  refine ⟨fun x hx => ?_, risP_of (List.Pairwise.sublist h1 (sideP_lt b st 0)), h2⟩
  obtain ⟨p, q, r⟩ := sideP_in b st 0 x (h1.subset hx)
  exact ⟨by simpa using p, by simpa using q, by simpa [rdOf] using r⟩
theorem ev_list {α β : Type} {f : Nat → α → Option β} {p : α → β} : ∀ gs : List α, (∀ g ∈ gs, Ev (fun k => f k g) (p g)) → ∃ K, ∀ k, K ≤ k → ∀ g ∈ gs, f k g = some (p g) := by
  intro gs
  induction gs with
  | nil => intro _; exact ⟨0, fun _ _ g hg => by cases hg⟩
  | cons g gs ih =>
    intro h
    obtain ⟨K1, e1⟩ := h g (by simp)
    obtain ⟨K2, e2⟩ := ih (fun x hx => h x (by simp [hx]))
    refine ⟨K1 + K2, fun k hk x hx => ?_⟩
    rcases List.mem_cons.1 hx with rfl | hx
    · exact e1 k (by omega)
    · exact e2 k (by omega) x hx
end Go.Proofs.Ytikjdmiohpdnaaa.Pure
