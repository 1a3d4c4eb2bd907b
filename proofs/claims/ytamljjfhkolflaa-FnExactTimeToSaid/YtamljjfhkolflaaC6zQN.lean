import Derived.Test.YtamljjfhkolflaaC6zx0
import Derived.Test.YtamljjfhkolflaaC6zx1
import Derived.Test.YtamljjfhkolflaaC6zx2
import Derived.Test.YtamljjfhkolflaaC6zx8
import Derived.Test.YtamljjfhkolflaaC6zx9
import Derived.Test.YtamljjfhkolflaaC6zH0
import Derived.Test.YtamljjfhkolflaaC6zH1
import Derived.Test.YtamljjfhkolflaaC6zQ0
import Derived.Test.YtamljjfhkolflaaC6zQ1
import Derived.Test.YtamljjfhkolflaaC6zQ2
import Derived.Test.YtamljjfhkolflaaC6zQ3
import Derived.Test.YtamljjfhkolflaaC6zQ4
import Derived.Test.YtamljjfhkolflaaC6zQ5
import Derived.Test.YtamljjfhkolflaaC6zQS
import Derived.Test.YtamljjfhkolflaaC6zQG
namespace Go.Proofs.Ytamljjfhkolflaa.Pure
open Go.RowKit Go.Proofs.Ytamljjfhkolflaa.C6 Go.Proofs.Ytamljjfhkolflaa.H Go.Proofs.YtamljjfhkolflaaW.PrintWords Go.Proofs.YtamljjfhkolflaaW.PrintLast Go.Proofs.YtamljjfhkolflaaW.PrintMore
set_option linter.unusedVariables false
set_option linter.unusedSimpArgs false
def allB : Nat → List (List Bool)
  | 0 => [[]]
  | n + 1 => (allB n).flatMap fun l => [false :: l, true :: l]
theorem mem_allB : ∀ l : List Bool, l ∈ allB l.length := by
  intro l
  induction l with
  | nil => simp [allB]
  | cons x l ih =>
    simp only [List.length_cons, allB, List.mem_flatMap]
    exact ⟨l, ih, by cases x <;> simp⟩
def bitI (b : Bool) : Int := if b then 1 else 0
def enI : List Bool → Bool → Int
  | [], t => bitI t
  | x :: r, t => 2 * enI r t + bitI x
def dcI (n : Nat) (u : Int) : List Bool × Bool := ((List.range n).map (fun k => u / 2 ^ k % 2 == 1), u / 2 ^ n % 2 == 1)
def enS (ov : List Bool) (t : Bool) : Int := ov.foldl (fun a x => 2 * a + bitI x) (bitI t)
def dcS (n : Nat) (u : Int) : List Bool × Bool := ((List.range n).map (fun k => u / 2 ^ (n - 1 - k) % 2 == 1), u / 2 ^ n % 2 == 1)
set_option maxRecDepth 100000 in
theorem chk_en : ((List.range 9).all fun n => (allB n).all fun ov => [false, true].all fun t => decide (0 ≤ enI ov t ∧ enI ov t < 2 ^ (n + 1) ∧ dcI n (enI ov t) = (ov, t) ∧ 0 ≤ enS ov t ∧ enS ov t < 2 ^ (n + 1) ∧ dcS n (enS ov t) = (ov, t))) = true := by decide +kernel
set_option maxRecDepth 100000 in
theorem chk_dc : ((List.range 9).all fun n => (List.range (2 ^ (n + 1))).all fun u => decide ((dcI n (u : Int)).1.length = n ∧ enI (dcI n (u : Int)).1 (dcI n (u : Int)).2 = (u : Int) ∧ (dcS n (u : Int)).1.length = n ∧ enS (dcS n (u : Int)).1 (dcS n (u : Int)).2 = (u : Int))) = true := by decide +kernel
theorem en_facts {n : Nat} (hn : n ≤ 8) (ov : List Bool) (t : Bool) (hl : ov.length = n) : 0 ≤ enI ov t ∧ enI ov t < 2 ^ (n + 1) ∧ dcI n (enI ov t) = (ov, t) ∧ 0 ≤ enS ov t ∧ enS ov t < 2 ^ (n + 1) ∧ dcS n (enS ov t) = (ov, t) := by
  have h := List.all_eq_true.1 chk_en n (List.mem_range.2 (by omega))
  have h := List.all_eq_true.1 h ov (by rw [← hl]; exact mem_allB ov)
  exact of_decide_eq_true (List.all_eq_true.1 h t (by cases t <;> simp))
theorem dc_facts {n : Nat} (hn : n ≤ 8) (u : Int) (h0 : 0 ≤ u) (h1 : u < 2 ^ (n + 1)) : (dcI n u).1.length = n ∧ enI (dcI n u).1 (dcI n u).2 = u ∧ (dcS n u).1.length = n ∧ enS (dcS n u).1 (dcS n u).2 = u := by
  have h := List.all_eq_true.1 chk_dc n (List.mem_range.2 (by omega))
  have e : ((u.toNat : Nat) : Int) = u := Int.toNat_of_nonneg h0
  have hu : u.toNat < 2 ^ (n + 1) := by
    have : ((2 ^ (n + 1) : Nat) : Int) = 2 ^ (n + 1) := by simp
    omega
  have h := of_decide_eq_true (List.all_eq_true.1 h u.toNat (List.mem_range.2 hu))
  rwa [e] at h
set_option maxRecDepth 100000 in
theorem chk_code : ((List.range 9).all fun n => (allB n).all fun ov => [false, true].all fun t => decide (impl_State_code.f 20 ov t = some (enI ov t))) = true := by decide +kernel
theorem code_ev {n : Nat} (hn : n ≤ 8) (ov : List Bool) (t : Bool) (hl : ov.length = n) : Ev (fun k => impl_State_code.f k ov t) (enI ov t) := by
  have h := List.all_eq_true.1 chk_code n (List.mem_range.2 (by omega))
  have h := List.all_eq_true.1 h ov (by rw [← hl]; exact mem_allB ov)
  exact Ev.of (fun k => impl_State_code.mono _ _ _) (of_decide_eq_true (List.all_eq_true.1 h t (by cases t <;> simp)))
set_option maxRecDepth 100000 in
theorem chk_stateOf : ((List.range 9).all fun n => (List.range (2 ^ (n + 1))).all fun u => decide (impl_stateOf.f 20 (n : Int) (u : Int) = some (dcI n (u : Int)))) = true := by decide +kernel
theorem stateOf_ev {n : Nat} (hn : n ≤ 8) (u : Int) (h0 : 0 ≤ u) (h1 : u < 2 ^ (n + 1)) : Ev (fun k => impl_stateOf.f k (n : Int) u) (dcI n u) := by
  have h := List.all_eq_true.1 chk_stateOf n (List.mem_range.2 (by omega))
  have e : ((u.toNat : Nat) : Int) = u := Int.toNat_of_nonneg h0
  have hu : u.toNat < 2 ^ (n + 1) := by
    have : ((2 ^ (n + 1) : Nat) : Int) = 2 ^ (n + 1) := by simp
    omega
  have h := of_decide_eq_true (List.all_eq_true.1 h u.toNat (List.mem_range.2 hu))
  rw [e] at h
  exact Ev.of (fun k => impl_stateOf.mono _ _ _) h
set_option maxRecDepth 100000 in
theorem chk_seIndex : ((List.range 9).all fun n => (allB n).all fun ov => [false, true].all fun t => decide (spec_seIndex.f 20 ov t = some (enS ov t))) = true := by decide +kernel
theorem seIndex_ev {n : Nat} (hn : n ≤ 8) (ov : List Bool) (t : Bool) (hl : ov.length = n) : Ev (fun k => spec_seIndex.f k ov t) (enS ov t) := by
  have h := List.all_eq_true.1 chk_seIndex n (List.mem_range.2 (by omega))
  have h := List.all_eq_true.1 h ov (by rw [← hl]; exact mem_allB ov)
  exact Ev.of (fun k => spec_seIndex.mono _ _ _) (of_decide_eq_true (List.all_eq_true.1 h t (by cases t <;> simp)))
set_option maxRecDepth 100000 in
theorem chk_seState : ((List.range 9).all fun n => (List.range (2 ^ (n + 1))).all fun u => decide (spec_seState.f 20 (u : Int) (n : Int) = some (dcS n (u : Int)))) = true := by decide +kernel
theorem seState_ev {n : Nat} (hn : n ≤ 8) (u : Int) (h0 : 0 ≤ u) (h1 : u < 2 ^ (n + 1)) : Ev (fun k => spec_seState.f k u (n : Int)) (dcS n u) := by
  have h := List.all_eq_true.1 chk_seState n (List.mem_range.2 (by omega))
  have e : ((u.toNat : Nat) : Int) = u := Int.toNat_of_nonneg h0
  have hu : u.toNat < 2 ^ (n + 1) := by
    have : ((2 ^ (n + 1) : Nat) : Int) = 2 ^ (n + 1) := by simp
    omega
  have h := of_decide_eq_true (List.all_eq_true.1 h u.toNat (List.mem_range.2 hu))
  rw [e] at h
  exact Ev.of (fun k => spec_seState.mono _ _ _) h
end Go.Proofs.Ytamljjfhkolflaa.Pure
