import Derived.Test.YtpobeakggacdpaaC10zx0
import Derived.Test.YtpobeakggacdpaaC10zH0
import Derived.Test.YtpobeakggacdpaaC10zH1
namespace Go.Proofs.Ytpobeakggacdpaa.Pure
open Go.RowKit Go.Proofs.Ytpobeakggacdpaa.C10 Go.Proofs.Ytpobeakggacdpaa.H Go.Proofs.YtpobeakggacdpaaW.PrintWords Go.Proofs.YtpobeakggacdpaaW.PrintLast Go.Proofs.YtpobeakggacdpaaW.PrintMore
set_option linter.unusedVariables false
set_option linter.unusedSimpArgs false
def szSum {α : Type} (f : α → Nat) : List α → Nat
  | [] => 0
  | x :: l => f x + szSum f l
def n2 (l : List (List Int)) : Nat := l.length + szSum List.length l
theorem szSum_bound {α : Type} (f : α → Nat) (l : List α) {B : Nat} (h : l.length + szSum f l ≤ B) : l.length ≤ B ∧ ∀ x ∈ l, f x ≤ B := by
  refine ⟨by omega, ?_⟩
  have h2 : szSum f l ≤ B := by omega
  clear h
  induction l with
  | nil => intro x hx; cases hx
  | cons y l ih =>
    simp only [szSum] at h2
    intro x hx
    rcases List.mem_cons.1 hx with rfl | hx
    · omega
    · exact ih (by omega) x hx
theorem mkS_bound (l : List Int) : ∀ a : Int, 0 ≤ a → a + l.length ≤ 1000000000000000 → a ≤ (mkS l a).1 ∧ (mkS l a).1 ≤ a + l.length := by
  induction l with
  | nil => intro a _ _; simp [mkS]
  | cons x l ih =>
    intro a h0 h1
    simp only [List.length_cons] at h1
    simp only [mkS]
    rw [wr_id (by omega) (by omega)]
    have := ih (a + 1) (by omega) (by omega)
    simp only [List.length_cons]
    omega
theorem mkB_bound (l : List Bool) : ∀ a : Int, 0 ≤ a → a + l.length ≤ 1000000000000000 → a ≤ (mkB l a).1 ∧ (mkB l a).1 ≤ a + l.length := by
  induction l with
  | nil => intro a _ _; simp [mkB]
  | cons x l ih =>
    intro a h0 h1
    simp only [List.length_cons] at h1
    simp only [mkB]
    rw [wr_id (by omega) (by omega)]
    have := ih (a + 1) (by omega) (by omega)
    simp only [List.length_cons]
    omega
theorem mkB_len (l : List Bool) : ∀ a : Int, (mkB l a).2.length = l.length := by
  induction l with
  | nil => intro a; rfl
  | cons x l ih => intro a; simp only [mkB, List.length_cons]; rw [ih]
theorem mkSS_bound' (l : List (List Int)) : ∀ a : Int, 0 ≤ a → a + szSum List.length l ≤ 1000000000000000 → a ≤ (mkSS l a).1 ∧ (mkSS l a).1 ≤ a + szSum List.length l := by
  induction l with
  | nil => intro a _ _; simp [mkSS, szSum]
  | cons x l ih =>
    intro a h0 h1
    simp only [szSum] at h1
    have h2 := mkS_bound x a h0 (by omega)
    have := ih (mkS x a).1 (by omega) (by omega)
    simp only [mkSS, szSum]
    omega
theorem mkSS_bound (l : List (List Int)) (a : Int) (h0 : 0 ≤ a) (ha : a + n2 l ≤ 1000000000000000) : a ≤ (mkSS l a).1 ∧ (mkSS l a).1 ≤ a + n2 l := by
  simp only [n2] at ha ⊢
  have := mkSS_bound' l a h0 (by omega)
  omega
end Go.Proofs.Ytpobeakggacdpaa.Pure
