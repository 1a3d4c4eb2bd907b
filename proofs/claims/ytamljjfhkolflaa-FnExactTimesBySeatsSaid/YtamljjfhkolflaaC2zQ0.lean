import Derived.Test.YtamljjfhkolflaaC2zx0
import Derived.Test.YtamljjfhkolflaaC2zH0
import Derived.Test.YtamljjfhkolflaaC2zH1
namespace Go.Proofs.Ytamljjfhkolflaa.Pure
open Go.RowKit Go.Proofs.Ytamljjfhkolflaa.C2 Go.Proofs.Ytamljjfhkolflaa.H Go.Proofs.YtamljjfhkolflaaW.PrintWords Go.Proofs.YtamljjfhkolflaaW.PrintLast Go.Proofs.YtamljjfhkolflaaW.PrintMore
set_option linter.unusedVariables false
set_option linter.unusedSimpArgs false
def szSum {α : Type} (f : α → Nat) : List α → Nat
  | [] => 0
  | x :: l => f x + szSum f l
def n2 (l : List (List Int)) : Nat := l.length + szSum List.length l
def n3 (l : List (List (List Int))) : Nat := l.length + szSum n2 l
theorem mkS_bound (l : List Int) : ∀ a : Int, 0 ≤ a → a + l.length ≤ 1000000000000000 → a ≤ (mkS l a).1 ∧ (mkS l a).1 ≤ a + l.length := by
  induction l with
  | nil => intro a _ _; simp [mkS]
  | cons x l ih =>
    intro a h0 h1
    simp only [List.length_cons] at h1
    simp only [mkS]
    rw [wr_id (by omega) (by omega)]
    have := ih (a + 1) (by omega) (by omega)
    simp only [List.length_cons]
    omega
theorem mkS_len (l : List Int) : ∀ a : Int, (mkS l a).2.length = l.length := by
  induction l with
  | nil => intro a; rfl
  | cons x l ih => intro a; simp only [mkS, List.length_cons]; rw [ih]
end Go.Proofs.Ytamljjfhkolflaa.Pure
