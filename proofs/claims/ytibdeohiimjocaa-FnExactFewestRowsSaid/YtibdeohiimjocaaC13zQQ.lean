import Derived.Test.YtibdeohiimjocaaC13zx0
import Derived.Test.YtibdeohiimjocaaC13zH0
import Derived.Test.YtibdeohiimjocaaC13zH1
import Derived.Test.YtibdeohiimjocaaC13zx1
import Derived.Test.YtibdeohiimjocaaC13zx5
import Derived.Test.YtibdeohiimjocaaC13zx6
import Derived.Test.YtibdeohiimjocaaC13zx10
namespace Go.Proofs.Ytibdeohiimjocaa.Pure
open Go.RowKit Go.Proofs.Ytibdeohiimjocaa.C13 Go.Proofs.Ytibdeohiimjocaa.H Go.Proofs.YtibdeohiimjocaaW.PrintWords Go.Proofs.YtibdeohiimjocaaW.PrintLast Go.Proofs.YtibdeohiimjocaaW.PrintMore
set_option linter.unusedVariables false
set_option linter.unusedSimpArgs false
def szSum {α : Type} (f : α → Nat) : List α → Nat
  | [] => 0
  | x :: l => f x + szSum f l
def n2 (l : List (List Int)) : Nat := l.length + szSum List.length l
def n3 (l : List (List (List Int))) : Nat := l.length + szSum n2 l
end Go.Proofs.Ytibdeohiimjocaa.Pure

namespace Go.Proofs.Ytibdeohiimjocaa.Pure
open Go.RowKit Go.Proofs.Ytibdeohiimjocaa.C13 Go.Proofs.Ytibdeohiimjocaa.H Go.Proofs.YtibdeohiimjocaaW.PrintWords Go.Proofs.YtibdeohiimjocaaW.PrintLast Go.Proofs.YtibdeohiimjocaaW.PrintMore
set_option linter.unusedVariables false
set_option linter.unusedSimpArgs false
end Go.Proofs.Ytibdeohiimjocaa.Pure

namespace Go.Proofs.Ytibdeohiimjocaa.Pure
open Go.RowKit Go.Proofs.Ytibdeohiimjocaa.C13 Go.Proofs.Ytibdeohiimjocaa.H Go.Proofs.YtibdeohiimjocaaW.PrintWords Go.Proofs.YtibdeohiimjocaaW.PrintLast Go.Proofs.YtibdeohiimjocaaW.PrintMore
set_option linter.unusedVariables false
set_option linter.unusedSimpArgs false
theorem ev_up {α : Type} {f : Nat → Option α} (hm : ∀ k, LeO (f k) (f (k + 1))) {K : Nat} {r : α} (h : f K = some r) : Ev f r := by
  refine ⟨K, fun k hk => ?_⟩
  induction k with
  | zero => rw [show K = 0 by omega] at h; exact h
  | succ k ih =>
    by_cases e : K = k + 1
    · rw [← e]; exact h
    · exact hm k r (ih (by omega))
theorem map_some {α β : Type} {o : Option α} {f : α → β} {b : β} (h : o.map f = some b) : ∃ a, o = some a ∧ f a = b := by
  cases o with
  | none => cases h
  | some a => exact ⟨a, rfl, Option.some.inj h⟩
def cuR (K N : Nat) (cn m : Int) : Option (List Int × List Int) := spec_cuFar.l1 K ((List.replicate N (-1)).set 0 0) ((List.replicate N 0).set 0 1) [0] 0 cn m
theorem cuFar_fill (cn m : Int) (x7 : List Int) (R : List Int × List Int) : ∀ (n : Nat) (pre : List Int), (∀ v ∈ pre, v = -1) → pre.length + n ≤ 1000 → 0 < pre.length + n → 0 < x7.length → Ev (fun k => spec_cuFar.l1 k ((List.replicate (pre.length + n) (-1)).set 0 0) (x7.set 0 1) [0] 0 cn m) R →
    Ev (fun k => spec_cuFar.l0 k 0 (pre ++ List.replicate n 0) x7 ((pre.length + n : Nat) : Int) (pre.length : Int) cn m) R := by
  intro n
  induction n with
  | zero =>
    intro pre hp hl h0 h7 h
    have e : pre = List.replicate (pre.length + 0) (-1) := List.eq_replicate_iff.2 ⟨by simp, hp⟩
    refine Ev.step (fun k => spec_cuFar.l0.eq_2 ..) ?_
    rw [show pre ++ List.replicate 0 0 = pre by simp]
    rw [← e] at h
    simp only [if_neg (show ¬ (pre.length : Int) < ((pre.length + 0 : Nat) : Int) by omega), if_pos (show (0 : Int) ≤ 0 by omega), if_pos (show (0 : Int) < (pre.length : Int) by omega), if_pos (show (0 : Int) < (x7.length : Int) by omega)]
    exact h
  | succ n ih =>
    intro pre hp hl h0 h7 h
    refine Ev.step (fun k => spec_cuFar.l0.eq_2 ..) ?_
    rw [List.replicate_succ, set_mid, wr_id (a := (pre.length : Int) + 1) (by omega) (by omega)]
    simp only [if_pos (show (pre.length : Int) < ((pre.length + (n + 1) : Nat) : Int) by omega), if_pos (zle pre.length), if_pos (lt_mid pre (0 : Int) (List.replicate n 0))]
    rw [app_mid]
    have := ih (pre ++ [-1]) (fun v hv => by
      rcases List.mem_append.1 hv with hv | hv
      · exact hp v hv
      · simpa using hv) (by simp; omega) (by simp; omega) h7 (by rw [show (pre ++ [(-1 : Int)]).length + n = pre.length + (n + 1) by simp; omega]; exact h)
    rw [show ((pre ++ [(-1 : Int)]).length + n : Nat) = pre.length + (n + 1) by simp; omega, show (((pre ++ [(-1 : Int)]).length : Nat) : Int) = (pre.length : Int) + 1 by simp] at this
    exact this
theorem cuFar_of {cn m : Int} {N : Nat} (h1 : (spec_cuSize.f cn m).map (fun z => wrap64 (2 * z)) = some (N : Int)) (h0 : 0 < N) (hN : N ≤ 1000) {K : Nat} {R : List Int × List Int} (h : cuR K N cn m = some R) : Ev (fun k => spec_cuFar.f k cn m 0) R := by
  obtain ⟨z, hz, hw⟩ := map_some h1
  unfold spec_cuFar.f
  have hup : Ev (fun k => spec_cuFar.l1 k ((List.replicate N (-1)).set 0 0) ((List.replicate N 0).set 0 1) [0] 0 cn m) R := ev_up (fun k => (spec_cuFar.mono_l k).2.1 _ _ _ _ _ _) h
  have hf := cuFar_fill cn m (List.replicate N 0) R N [] (by simp) (by simp; omega) (by simp; omega) (by simpa using h0) (by simpa using hup)
  simp only [hz, Option.bind_some, hw, if_pos (show (0 : Int) ≤ (N : Int) by omega), Int.toNat_natCast, if_pos (show N ≤ 35184372088832 by omega), List.length_replicate]
  simpa using hf
theorem cuFewest_of {cn m d : Int} {N : Nat} (h1 : (spec_cuSize.f cn m).map (fun z => wrap64 (2 * z)) = some (N : Int)) (h0 : 0 < N) (hN : N ≤ 1000) {K : Nat} (h : (cuR K N cn m).map (fun r => (r.1.length, r.2.length, rd r.1 ((N : Int) - 1))) = some (N, N, d)) : ∃ y, Ev (fun k => spec_cuFewest.f k cn m) (d, y) := by
  obtain ⟨R, hR, e⟩ := map_some h
  obtain ⟨e1, e2⟩ := Prod.mk.inj e
  obtain ⟨e2, e3⟩ := Prod.mk.inj e2
  have hw : wrap64 ((N : Int) - 1) = (N : Int) - 1 := wr_id (by omega) (by omega)
  unfold spec_cuFewest.f
  refine ⟨rd R.2 ((N : Int) - 1), Ev.bind (cuFar_of h1 h0 hN hR) ?_⟩
  simp only [e1, e2, hw, if_pos (show (0 : Int) ≤ (N : Int) - 1 by omega), if_pos (show (N : Int) - 1 < (N : Int) by omega), e3]
  exact Ev.now _
def cuD : Int → Int → Int
  | 1, 1 => -1
  | 1, _ => 1
  | 2, 1 => -1
  | 2, 2 => 5
  | 2, 3 => 3
  | 2, _ => 1
  | 3, 1 => -1
  | 3, 2 => 11
  | 3, 3 => 5
  | 3, _ => 3
  | 4, 3 => 9
  | 4, 4 => 5
  | _, _ => -1
theorem cases4 {a : Int} (h0 : 1 ≤ a) (h1 : a ≤ 4) : a = 1 ∨ a = 2 ∨ a = 3 ∨ a = 4 := by omega
def goodU (cn m : Int) : Bool := inB 1 4 cn && inB 1 4 m
theorem goodU_in {cn m : Int} (h : goodU cn m = true) : (1 ≤ cn ∧ cn ≤ 4) ∧ 1 ≤ m ∧ m ≤ 4 := by
  unfold goodU inB at h
  simp only [Bool.and_eq_true, decide_eq_true_eq] at h
  exact h
theorem cuGood_eq (cn m : Int) : spec_cuGood.f cn m = some (goodU cn m) := by
  unfold spec_cuGood.f spec_l1In.f goodU inB
  by_cases h1 : 1 ≤ cn <;> by_cases h2 : cn ≤ 4 <;> by_cases h3 : 1 ≤ m <;> by_cases h4 : m ≤ 4 <;> simp [h1, h2, h3, h4]
theorem isCompany_eq (cn m : Int) : impl_IsCompany.f cn m = some (goodU cn m) := by
  unfold impl_IsCompany.f impl_in.f goodU inB
  by_cases h1 : 1 ≤ cn <;> by_cases h2 : cn ≤ 4 <;> by_cases h3 : 1 ≤ m <;> by_cases h4 : m ≤ 4 <;> simp [h1, h2, h3, h4]
end Go.Proofs.Ytibdeohiimjocaa.Pure

namespace Go.Proofs.Ytibdeohiimjocaa.Pure
open Go.RowKit Go.Proofs.Ytibdeohiimjocaa.C13 Go.Proofs.Ytibdeohiimjocaa.H Go.Proofs.YtibdeohiimjocaaW.PrintWords Go.Proofs.YtibdeohiimjocaaW.PrintLast Go.Proofs.YtibdeohiimjocaaW.PrintMore
set_option linter.unusedVariables false
set_option linter.unusedSimpArgs false
set_option maxRecDepth 100000 in
theorem cuT1 : (cuR 100000 8 1 1).map (fun r => (r.1.length, r.2.length, rd r.1 (((8 : Nat) : Int) - 1))) = some (8, 8, cuD 1 1) ∧ (cuR 100000 8 1 2).map (fun r => (r.1.length, r.2.length, rd r.1 (((8 : Nat) : Int) - 1))) = some (8, 8, cuD 1 2) ∧ (cuR 100000 8 1 3).map (fun r => (r.1.length, r.2.length, rd r.1 (((8 : Nat) : Int) - 1))) = some (8, 8, cuD 1 3) ∧ (cuR 100000 8 1 4).map (fun r => (r.1.length, r.2.length, rd r.1 (((8 : Nat) : Int) - 1))) = some (8, 8, cuD 1 4) := by decide +kernel
set_option maxRecDepth 100000 in
theorem cuT2 : (cuR 100000 32 2 1).map (fun r => (r.1.length, r.2.length, rd r.1 (((32 : Nat) : Int) - 1))) = some (32, 32, cuD 2 1) ∧ (cuR 100000 32 2 2).map (fun r => (r.1.length, r.2.length, rd r.1 (((32 : Nat) : Int) - 1))) = some (32, 32, cuD 2 2) ∧ (cuR 100000 32 2 3).map (fun r => (r.1.length, r.2.length, rd r.1 (((32 : Nat) : Int) - 1))) = some (32, 32, cuD 2 3) ∧ (cuR 100000 32 2 4).map (fun r => (r.1.length, r.2.length, rd r.1 (((32 : Nat) : Int) - 1))) = some (32, 32, cuD 2 4) := by decide +kernel
set_option maxRecDepth 100000 in
theorem cuT3 : (cuR 100000 128 3 1).map (fun r => (r.1.length, r.2.length, rd r.1 (((128 : Nat) : Int) - 1))) = some (128, 128, cuD 3 1) ∧ (cuR 100000 128 3 2).map (fun r => (r.1.length, r.2.length, rd r.1 (((128 : Nat) : Int) - 1))) = some (128, 128, cuD 3 2) ∧ (cuR 100000 128 3 3).map (fun r => (r.1.length, r.2.length, rd r.1 (((128 : Nat) : Int) - 1))) = some (128, 128, cuD 3 3) ∧ (cuR 100000 128 3 4).map (fun r => (r.1.length, r.2.length, rd r.1 (((128 : Nat) : Int) - 1))) = some (128, 128, cuD 3 4) := by decide +kernel
set_option maxRecDepth 100000 in
theorem cuT41 : (cuR 100000 512 4 1).map (fun r => (r.1.length, r.2.length, rd r.1 (((512 : Nat) : Int) - 1))) = some (512, 512, cuD 4 1) := by decide +kernel
set_option maxRecDepth 100000 in
theorem cuT42 : (cuR 100000 512 4 2).map (fun r => (r.1.length, r.2.length, rd r.1 (((512 : Nat) : Int) - 1))) = some (512, 512, cuD 4 2) := by decide +kernel
set_option maxRecDepth 100000 in
theorem cuT43 : (cuR 100000 512 4 3).map (fun r => (r.1.length, r.2.length, rd r.1 (((512 : Nat) : Int) - 1))) = some (512, 512, cuD 4 3) := by decide +kernel
set_option maxRecDepth 100000 in
theorem cuT44 : (cuR 100000 512 4 4).map (fun r => (r.1.length, r.2.length, rd r.1 (((512 : Nat) : Int) - 1))) = some (512, 512, cuD 4 4) := by decide +kernel
theorem cuFewest_all {cn m : Int} (h0 : 1 ≤ cn) (h1 : cn ≤ 4) (h2 : 1 ≤ m) (h3 : m ≤ 4) : ∃ y, Ev (fun k => spec_cuFewest.f k cn m) (cuD cn m, y) := by
  rcases cases4 h0 h1 with rfl | rfl | rfl | rfl <;> rcases cases4 h2 h3 with rfl | rfl | rfl | rfl
  · exact cuFewest_of (by decide +kernel) (by decide) (by decide) cuT1.1
  · exact cuFewest_of (by decide +kernel) (by decide) (by decide) cuT1.2.1
  · exact cuFewest_of (by decide +kernel) (by decide) (by decide) cuT1.2.2.1
  · exact cuFewest_of (by decide +kernel) (by decide) (by decide) cuT1.2.2.2
  · exact cuFewest_of (by decide +kernel) (by decide) (by decide) cuT2.1
  · exact cuFewest_of (by decide +kernel) (by decide) (by decide) cuT2.2.1
  · exact cuFewest_of (by decide +kernel) (by decide) (by decide) cuT2.2.2.1
  · exact cuFewest_of (by decide +kernel) (by decide) (by decide) cuT2.2.2.2
  · exact cuFewest_of (by decide +kernel) (by decide) (by decide) cuT3.1
  · exact cuFewest_of (by decide +kernel) (by decide) (by decide) cuT3.2.1
  · exact cuFewest_of (by decide +kernel) (by decide) (by decide) cuT3.2.2.1
  · exact cuFewest_of (by decide +kernel) (by decide) (by decide) cuT3.2.2.2
  · exact cuFewest_of (by decide +kernel) (by decide) (by decide) cuT41
  · exact cuFewest_of (by decide +kernel) (by decide) (by decide) cuT42
  · exact cuFewest_of (by decide +kernel) (by decide) (by decide) cuT43
  · exact cuFewest_of (by decide +kernel) (by decide) (by decide) cuT44
end Go.Proofs.Ytibdeohiimjocaa.Pure

namespace Go.Proofs.Ytibdeohiimjocaa.Pure
open Go.RowKit Go.Proofs.Ytibdeohiimjocaa.C13 Go.Proofs.Ytibdeohiimjocaa.H Go.Proofs.YtibdeohiimjocaaW.PrintWords Go.Proofs.YtibdeohiimjocaaW.PrintLast Go.Proofs.YtibdeohiimjocaaW.PrintMore
set_option linter.unusedVariables false
set_option linter.unusedSimpArgs false
set_option maxRecDepth 100000 in
theorem cuI1 : ∀ b : Fin 4, (impl_Company_costs.f 100000 1 ((b : Nat) + 1 : Int) 2).map (fun p => (p.2, rd p.1 0)) = some (decide (0 ≤ cuD 1 ((b : Nat) + 1 : Int)), cuD 1 ((b : Nat) + 1 : Int)) := by decide +kernel
set_option maxRecDepth 100000 in
theorem cuI2 : ∀ b : Fin 4, (impl_Company_costs.f 100000 2 ((b : Nat) + 1 : Int) 4).map (fun p => (p.2, rd p.1 0)) = some (decide (0 ≤ cuD 2 ((b : Nat) + 1 : Int)), cuD 2 ((b : Nat) + 1 : Int)) := by decide +kernel
set_option maxRecDepth 100000 in
theorem cuI3 : ∀ b : Fin 4, (impl_Company_costs.f 100000 3 ((b : Nat) + 1 : Int) 6).map (fun p => (p.2, rd p.1 0)) = some (decide (0 ≤ cuD 3 ((b : Nat) + 1 : Int)), cuD 3 ((b : Nat) + 1 : Int)) := by decide +kernel
set_option maxRecDepth 100000 in
theorem cuI41 : (impl_Company_costs.f 100000 4 1 8).map (fun p => (p.2, rd p.1 0)) = some (decide (0 ≤ cuD 4 1), cuD 4 1) := by decide +kernel
set_option maxRecDepth 100000 in
theorem cuI42 : (impl_Company_costs.f 100000 4 2 8).map (fun p => (p.2, rd p.1 0)) = some (decide (0 ≤ cuD 4 2), cuD 4 2) := by decide +kernel
set_option maxRecDepth 100000 in
theorem cuI43 : (impl_Company_costs.f 100000 4 3 8).map (fun p => (p.2, rd p.1 0)) = some (decide (0 ≤ cuD 4 3), cuD 4 3) := by decide +kernel
set_option maxRecDepth 100000 in
theorem cuI44 : (impl_Company_costs.f 100000 4 4 8).map (fun p => (p.2, rd p.1 0)) = some (decide (0 ≤ cuD 4 4), cuD 4 4) := by decide +kernel
theorem cuCosts_of {cn nn : Nat} {m d : Int} {K : Nat} (h : (impl_Company_costs.f K cn m nn).map (fun p => (p.2, rd p.1 0)) = some (decide (0 ≤ d), d)) : ∃ r, Ev (fun k => impl_Company_costs.f k cn m nn) (r, decide (0 ≤ d)) ∧ rd r 0 = d := by
  obtain ⟨⟨r, ok⟩, hr, e⟩ := map_some h
  obtain ⟨e1, e2⟩ := Prod.mk.inj e
  dsimp only at e1 e2
  subst e1
  exact ⟨r, ev_up (f := fun k => impl_Company_costs.f k cn m nn) (fun k => impl_Company_costs.mono cn m nn k) hr, e2⟩
theorem cuCosts_all {cn m : Int} (h0 : 1 ≤ cn) (h1 : cn ≤ 4) (h2 : 1 ≤ m) (h3 : m ≤ 4) : ∃ r, Ev (fun k => impl_Company_costs.f k cn.toNat m (2 * cn.toNat)) (r, decide (0 ≤ cuD cn m)) ∧ rd r 0 = cuD cn m := by
  rcases cases4 h0 h1 with rfl | rfl | rfl | rfl
  · rcases cases4 h2 h3 with rfl | rfl | rfl | rfl
    · exact cuCosts_of (cuI1 0)
    · exact cuCosts_of (cuI1 1)
    · exact cuCosts_of (cuI1 2)
    · exact cuCosts_of (cuI1 3)
  · rcases cases4 h2 h3 with rfl | rfl | rfl | rfl
    · exact cuCosts_of (cuI2 0)
    · exact cuCosts_of (cuI2 1)
    · exact cuCosts_of (cuI2 2)
    · exact cuCosts_of (cuI2 3)
  · rcases cases4 h2 h3 with rfl | rfl | rfl | rfl
    · exact cuCosts_of (cuI3 0)
    · exact cuCosts_of (cuI3 1)
    · exact cuCosts_of (cuI3 2)
    · exact cuCosts_of (cuI3 3)
  · rcases cases4 h2 h3 with rfl | rfl | rfl | rfl
    · exact cuCosts_of cuI41
    · exact cuCosts_of cuI42
    · exact cuCosts_of cuI43
    · exact cuCosts_of cuI44
end Go.Proofs.Ytibdeohiimjocaa.Pure

namespace Go.Proofs.Ytibdeohiimjocaa.Pure
open Go.RowKit Go.Proofs.Ytibdeohiimjocaa.C13 Go.Proofs.Ytibdeohiimjocaa.H Go.Proofs.YtibdeohiimjocaaW.PrintWords Go.Proofs.YtibdeohiimjocaaW.PrintLast Go.Proofs.YtibdeohiimjocaaW.PrintMore
set_option linter.unusedVariables false
set_option linter.unusedSimpArgs false
theorem FnExactFewestRows_both (cn m : Int) : ∃ rr : Int × Bool, Ev (fun k => spec_FewestRows.f k cn m) rr ∧ Ev (fun k => impl_FewestRows.f k cn m) rr ∧ True := by
  unfold spec_FewestRows.f impl_FewestRows.f
  rw [cuGood_eq, isCompany_eq]
  cases hg : goodU cn m with
  | false =>
    refine ⟨(0, false), ?_, ?_, trivial⟩
    · simp only [Option.bind_some, Bool.false_eq_true, if_false]; exact Ev.now _
    · simp only [Option.bind_some, Bool.false_eq_true, if_false]; exact Ev.now _
  | true =>
    obtain ⟨⟨h0, h1⟩, h2, h3⟩ := goodU_in hg
    obtain ⟨y, hy⟩ := cuFewest_all h0 h1 h2 h3
    obtain ⟨r, hr, hd⟩ := cuCosts_all h0 h1 h2 h3
    refine ⟨if cuD cn m < 0 then (0, false) else (cuD cn m, true), ?_, ?_, trivial⟩
    · simp only [Option.bind_some, if_true]
      refine Ev.bind hy ?_
      dsimp only
      split <;> exact Ev.now _
    · simp only [Option.bind_some, if_true, if_pos (show 0 ≤ cn ∧ cn ≤ 4 by omega)]
      refine Ev.bind hr ?_
      dsimp only
      rw [hd]
      by_cases h : cuD cn m < 0
      · simp only [if_pos h, decide_eq_false (show ¬ 0 ≤ cuD cn m by omega), Bool.false_eq_true, if_false]; exact Ev.now _
      · simp only [if_neg h, decide_eq_true (show 0 ≤ cuD cn m by omega), if_true]; exact Ev.now _
theorem FnExactFewestRows_pure : ∀ (a0 a1 : Int), goodI a0 → goodI a1 → ∃ k, laws_FnExactFewestRows.f k a0 a1 = some true := by
  intro a0 a1 _ _
  obtain ⟨⟨r1, r2⟩, h3, h4, _⟩ := FnExactFewestRows_both a0 a1
  refine Ev.rounds ?_
  unfold laws_FnExactFewestRows.f laws_toCompany.f
  simp only [Option.bind_some]
  refine Ev.bind h3 (Ev.bind h4 ?_)
  simp only [if_true, bne_self_eq_false, Bool.false_eq_true, if_false]
  exact Ev.now _
end Go.Proofs.Ytibdeohiimjocaa.Pure
