import Derived.Test.YtibdeohiimjocaaC16zx0
import Derived.Test.YtibdeohiimjocaaC16zH0
import Derived.Test.YtibdeohiimjocaaC16zH1
import Derived.Test.YtibdeohiimjocaaC16zx1
import Derived.Test.YtibdeohiimjocaaC16zx5
import Derived.Test.YtibdeohiimjocaaC16zx6
import Derived.Test.YtibdeohiimjocaaC16zx10
namespace Go.Proofs.Ytibdeohiimjocaa.Pure
open Go.RowKit Go.Proofs.Ytibdeohiimjocaa.C16 Go.Proofs.Ytibdeohiimjocaa.H Go.Proofs.YtibdeohiimjocaaW.PrintWords Go.Proofs.YtibdeohiimjocaaW.PrintLast Go.Proofs.YtibdeohiimjocaaW.PrintMore
set_option linter.unusedVariables false
set_option linter.unusedSimpArgs false
def szSum {α : Type} (f : α → Nat) : List α → Nat
  | [] => 0
  | x :: l => f x + szSum f l
def n2 (l : List (List Int)) : Nat := l.length + szSum List.length l
def n3 (l : List (List (List Int))) : Nat := l.length + szSum n2 l
end Go.Proofs.Ytibdeohiimjocaa.Pure

namespace Go.Proofs.Ytibdeohiimjocaa.Pure
open Go.RowKit Go.Proofs.Ytibdeohiimjocaa.C16 Go.Proofs.Ytibdeohiimjocaa.H Go.Proofs.YtibdeohiimjocaaW.PrintWords Go.Proofs.YtibdeohiimjocaaW.PrintLast Go.Proofs.YtibdeohiimjocaaW.PrintMore
set_option linter.unusedVariables false
set_option linter.unusedSimpArgs false
end Go.Proofs.Ytibdeohiimjocaa.Pure

namespace Go.Proofs.Ytibdeohiimjocaa.Pure
open Go.RowKit Go.Proofs.Ytibdeohiimjocaa.C16 Go.Proofs.Ytibdeohiimjocaa.H Go.Proofs.YtibdeohiimjocaaW.PrintWords Go.Proofs.YtibdeohiimjocaaW.PrintLast Go.Proofs.YtibdeohiimjocaaW.PrintMore
set_option linter.unusedVariables false
set_option linter.unusedSimpArgs false
theorem ev_up {α : Type} {f : Nat → Option α} (hm : ∀ k, LeO (f k) (f (k + 1))) {K : Nat} {r : α} (h : f K = some r) : Ev f r := by
  refine ⟨K, fun k hk => ?_⟩
  induction k with
  | zero => rw [show K = 0 by omega] at h; exact h
  | succ k ih =>
    by_cases e : K = k + 1
    · rw [← e]; exact h
    · exact hm k r (ih (by omega))
theorem map_some {α β : Type} {o : Option α} {f : α → β} {b : β} (h : o.map f = some b) : ∃ a, o = some a ∧ f a = b := by
  cases o with
  | none => cases h
  | some a => exact ⟨a, rfl, Option.some.inj h⟩
def cuR (K N : Nat) (cn m : Int) : Option (List Int × List Int) := spec_cuFar.l1 K ((List.replicate N (-1)).set 0 0) ((List.replicate N 0).set 0 1) [0] 0 cn m
theorem cuFar_fill (cn m : Int) (x7 : List Int) (R : List Int × List Int) : ∀ (n : Nat) (pre : List Int), (∀ v ∈ pre, v = -1) → pre.length + n ≤ 1000 → 0 < pre.length + n → 0 < x7.length → Ev (fun k => spec_cuFar.l1 k ((List.replicate (pre.length + n) (-1)).set 0 0) (x7.set 0 1) [0] 0 cn m) R →
    Ev (fun k => spec_cuFar.l0 k 0 (pre ++ List.replicate n 0) x7 ((pre.length + n : Nat) : Int) (pre.length : Int) cn m) R := by
  intro n
  induction n with
  | zero =>
    intro pre hp hl h0 h7 h
    have e : pre = List.replicate (pre.length + 0) (-1) := List.eq_replicate_iff.2 ⟨by simp, hp⟩
    refine Ev.step (fun k => spec_cuFar.l0.eq_2 ..) ?_
    rw [show pre ++ List.replicate 0 0 = pre by simp]
    rw [← e] at h
    simp only [if_neg (show ¬ (pre.length : Int) < ((pre.length + 0 : Nat) : Int) by omega), if_pos (show (0 : Int) ≤ 0 by omega), if_pos (show (0 : Int) < (pre.length : Int) by omega), if_pos (show (0 : Int) < (x7.length : Int) by omega)]
    exact h
  | succ n ih =>
    intro pre hp hl h0 h7 h
    refine Ev.step (fun k => spec_cuFar.l0.eq_2 ..) ?_
    rw [List.replicate_succ, set_mid, wr_id (a := (pre.length : Int) + 1) (by omega) (by omega)]
    simp only [if_pos (show (pre.length : Int) < ((pre.length + (n + 1) : Nat) : Int) by omega), if_pos (zle pre.length), if_pos (lt_mid pre (0 : Int) (List.replicate n 0))]
    rw [app_mid]
    have := ih (pre ++ [-1]) (fun v hv => by
      rcases List.mem_append.1 hv with hv | hv
      · exact hp v hv
      · simpa using hv) (by simp; omega) (by simp; omega) h7 (by rw [show (pre ++ [(-1 : Int)]).length + n = pre.length + (n + 1) by simp; omega]; exact h)
    rw [show ((pre ++ [(-1 : Int)]).length + n : Nat) = pre.length + (n + 1) by simp; omega, show (((pre ++ [(-1 : Int)]).length : Nat) : Int) = (pre.length : Int) + 1 by simp] at this
    exact this
theorem cuFar_of {cn m : Int} {N : Nat} (h1 : (spec_cuSize.f cn m).map (fun z => wrap64 (2 * z)) = some (N : Int)) (h0 : 0 < N) (hN : N ≤ 1000) {K : Nat} {R : List Int × List Int} (h : cuR K N cn m = some R) : Ev (fun k => spec_cuFar.f k cn m 0) R := by
  obtain ⟨z, hz, hw⟩ := map_some h1
  unfold spec_cuFar.f
  have hup : Ev (fun k => spec_cuFar.l1 k ((List.replicate N (-1)).set 0 0) ((List.replicate N 0).set 0 1) [0] 0 cn m) R := ev_up (fun k => (spec_cuFar.mono_l k).2.1 _ _ _ _ _ _) h
  have hf := cuFar_fill cn m (List.replicate N 0) R N [] (by simp) (by simp; omega) (by simp; omega) (by simpa using h0) (by simpa using hup)
  simp only [hz, Option.bind_some, hw, if_pos (show (0 : Int) ≤ (N : Int) by omega), Int.toNat_natCast, if_pos (show N ≤ 35184372088832 by omega), List.length_replicate]
  simpa using hf
theorem cases4 {a : Int} (h0 : 1 ≤ a) (h1 : a ≤ 4) : a = 1 ∨ a = 2 ∨ a = 3 ∨ a = 4 := by omega
def goodU (cn m : Int) : Bool := inB 1 4 cn && inB 1 4 m
theorem goodU_in {cn m : Int} (h : goodU cn m = true) : (1 ≤ cn ∧ cn ≤ 4) ∧ 1 ≤ m ∧ m ≤ 4 := by
  unfold goodU inB at h
  simp only [Bool.and_eq_true, decide_eq_true_eq] at h
  exact h
theorem cuGood_eq (cn m : Int) : spec_cuGood.f cn m = some (goodU cn m) := by
  unfold spec_cuGood.f spec_l1In.f goodU inB
  by_cases h1 : 1 ≤ cn <;> by_cases h2 : cn ≤ 4 <;> by_cases h3 : 1 ≤ m <;> by_cases h4 : m ≤ 4 <;> simp [h1, h2, h3, h4]
theorem isCompany_eq (cn m : Int) : impl_IsCompany.f cn m = some (goodU cn m) := by
  unfold impl_IsCompany.f impl_in.f goodU inB
  by_cases h1 : 1 ≤ cn <;> by_cases h2 : cn ≤ 4 <;> by_cases h3 : 1 ≤ m <;> by_cases h4 : m ≤ 4 <;> simp [h1, h2, h3, h4]
end Go.Proofs.Ytibdeohiimjocaa.Pure

namespace Go.Proofs.Ytibdeohiimjocaa.Pure
open Go.RowKit Go.Proofs.Ytibdeohiimjocaa.C16 Go.Proofs.Ytibdeohiimjocaa.H Go.Proofs.YtibdeohiimjocaaW.PrintWords Go.Proofs.YtibdeohiimjocaaW.PrintLast Go.Proofs.YtibdeohiimjocaaW.PrintMore
set_option linter.unusedVariables false
set_option linter.unusedSimpArgs false
def cntI (l : List Int) (n : Nat) : Nat := (List.range n).foldl (fun (c : Nat) i => if 0 ≤ rd l ((i : Nat) : Int) then c.succ else c) 0
theorem cntI_succ (l : List Int) (n : Nat) : cntI l (n + 1) = if 0 ≤ rd l ((n : Nat) : Int) then cntI l n + 1 else cntI l n := by
  unfold cntI
  rw [List.range_succ, List.foldl_append]
  rfl
theorem cntI_le (l : List Int) : ∀ n, cntI l n ≤ n := by
  intro n
  induction n with
  | zero => exact Nat.le_refl _
  | succ n ih => rw [cntI_succ]; split <;> omega
theorem cuCount_loop : ∀ (r pre : List Int), (pre ++ r).length ≤ 1000 → Ev (fun k => spec_CountCalmReached.l0 k ((cntI (pre ++ r) pre.length : Nat) : Int) (pre ++ r) ((pre ++ r).length : Int) (pre.length : Int)) (((cntI (pre ++ r) (pre ++ r).length : Nat) : Int), true) := by
  intro r
  induction r with
  | nil =>
    intro pre _
    refine Ev.step (fun k => spec_CountCalmReached.l0.eq_2 ..) ?_
    simp only [if_neg (nlt_end pre)]
    rw [List.append_nil]
    exact Ev.now _
  | cons x r ih =>
    intro pre h2
    have hc := cntI_le (pre ++ x :: r) pre.length
    have hp : pre.length ≤ 1000 := by simp only [List.length_append] at h2; omega
    have hwr : wrap64 ((pre.length : Int) + 1) = ((pre ++ [x]).length : Int) := wr_mid pre x r (by omega)
    have e1 := ih (pre ++ [x]) (by simpa using h2)
    rw [List.append_assoc] at e1
    have hs := cntI_succ (pre ++ x :: r) pre.length
    rw [rd_mid] at hs
    rw [show (pre ++ [x]).length = pre.length + 1 by simp] at e1
    refine Ev.step (fun k => spec_CountCalmReached.l0.eq_2 ..) ?_
    rw [rd_mid]
    simp only [if_pos (lt_mid pre x r), if_pos (zle pre.length)]
    rw [hwr, wr_id (a := ((cntI (pre ++ x :: r) pre.length : Nat) : Int) + 1) (by omega) (by omega), show ((pre ++ [x]).length : Int) = ((pre.length + 1 : Nat) : Int) by simp]
    rw [show pre ++ ([x] ++ r) = pre ++ x :: r from rfl, hs] at e1
    by_cases hx : 0 ≤ x
    · simp only [if_pos (show x ≥ 0 from hx)]
      rw [if_pos hx] at e1
      exact e1
    · simp only [if_neg (show ¬ x ≥ 0 from hx)]
      rw [if_neg hx] at e1
      exact e1
set_option maxRecDepth 100000 in
theorem cuC11 : (cuR 100000 8 1 1).map (fun r => (r.1.length, cntI r.1 8)) = some (8, 3) ∧ impl_CountCalmReached.f 100000 1 1 = some (3, true) := by decide +kernel
set_option maxRecDepth 100000 in
theorem cuC12 : (cuR 100000 8 1 2).map (fun r => (r.1.length, cntI r.1 8)) = some (8, 6) ∧ impl_CountCalmReached.f 100000 1 2 = some (6, true) := by decide +kernel
set_option maxRecDepth 100000 in
theorem cuC13 : (cuR 100000 8 1 3).map (fun r => (r.1.length, cntI r.1 8)) = some (8, 6) ∧ impl_CountCalmReached.f 100000 1 3 = some (6, true) := by decide +kernel
set_option maxRecDepth 100000 in
theorem cuC14 : (cuR 100000 8 1 4).map (fun r => (r.1.length, cntI r.1 8)) = some (8, 6) ∧ impl_CountCalmReached.f 100000 1 4 = some (6, true) := by decide +kernel
set_option maxRecDepth 100000 in
theorem cuC21 : (cuR 100000 32 2 1).map (fun r => (r.1.length, cntI r.1 32)) = some (32, 3) ∧ impl_CountCalmReached.f 100000 2 1 = some (3, true) := by decide +kernel
set_option maxRecDepth 100000 in
theorem cuC22 : (cuR 100000 32 2 2).map (fun r => (r.1.length, cntI r.1 32)) = some (32, 18) ∧ impl_CountCalmReached.f 100000 2 2 = some (18, true) := by decide +kernel
set_option maxRecDepth 100000 in
theorem cuC23 : (cuR 100000 32 2 3).map (fun r => (r.1.length, cntI r.1 32)) = some (32, 18) ∧ impl_CountCalmReached.f 100000 2 3 = some (18, true) := by decide +kernel
set_option maxRecDepth 100000 in
theorem cuC24 : (cuR 100000 32 2 4).map (fun r => (r.1.length, cntI r.1 32)) = some (32, 18) ∧ impl_CountCalmReached.f 100000 2 4 = some (18, true) := by decide +kernel
set_option maxRecDepth 100000 in
theorem cuC31 : (cuR 100000 128 3 1).map (fun r => (r.1.length, cntI r.1 128)) = some (128, 4) ∧ impl_CountCalmReached.f 100000 3 1 = some (4, true) := by decide +kernel
set_option maxRecDepth 100000 in
theorem cuC32 : (cuR 100000 128 3 2).map (fun r => (r.1.length, cntI r.1 128)) = some (128, 40) ∧ impl_CountCalmReached.f 100000 3 2 = some (40, true) := by decide +kernel
set_option maxRecDepth 100000 in
theorem cuC33 : (cuR 100000 128 3 3).map (fun r => (r.1.length, cntI r.1 128)) = some (128, 42) ∧ impl_CountCalmReached.f 100000 3 3 = some (42, true) := by decide +kernel
set_option maxRecDepth 100000 in
theorem cuC34 : (cuR 100000 128 3 4).map (fun r => (r.1.length, cntI r.1 128)) = some (128, 42) ∧ impl_CountCalmReached.f 100000 3 4 = some (42, true) := by decide +kernel
set_option maxRecDepth 100000 in
theorem cuC41 : (cuR 100000 512 4 1).map (fun r => (r.1.length, cntI r.1 512)) = some (512, 5) ∧ impl_CountCalmReached.f 100000 4 1 = some (5, true) := by decide +kernel
set_option maxRecDepth 100000 in
theorem cuC42 : (cuR 100000 512 4 2).map (fun r => (r.1.length, cntI r.1 512)) = some (512, 44) ∧ impl_CountCalmReached.f 100000 4 2 = some (44, true) := by decide +kernel
set_option maxRecDepth 100000 in
theorem cuC43a : (cuR 100000 512 4 3).map (fun r => r.1.length) = some 512 := by decide +kernel
set_option maxRecDepth 100000 in
theorem cuC43b : (cuR 100000 512 4 3).map (fun r => cntI r.1 512) = some 88 := by decide +kernel
set_option maxRecDepth 100000 in
theorem cuC43c : impl_CountCalmReached.f 100000 4 3 = some (88, true) := by decide +kernel
theorem cuC43 : (cuR 100000 512 4 3).map (fun r => (r.1.length, cntI r.1 512)) = some (512, 88) ∧ impl_CountCalmReached.f 100000 4 3 = some (88, true) := by
  refine ⟨?_, cuC43c⟩
  obtain ⟨R, hR, h1⟩ := map_some cuC43a
  obtain ⟨R2, hR2, h2⟩ := map_some cuC43b
  rw [hR] at hR2
  obtain rfl := Option.some.inj hR2
  rw [hR, Option.map_some, h1, h2]
set_option maxRecDepth 100000 in
theorem cuC44a : (cuR 100000 512 4 4).map (fun r => r.1.length) = some 512 := by decide +kernel
set_option maxRecDepth 100000 in
theorem cuC44b : (cuR 100000 512 4 4).map (fun r => cntI r.1 512) = some 90 := by decide +kernel
set_option maxRecDepth 100000 in
theorem cuC44c : impl_CountCalmReached.f 100000 4 4 = some (90, true) := by decide +kernel
theorem cuC44 : (cuR 100000 512 4 4).map (fun r => (r.1.length, cntI r.1 512)) = some (512, 90) ∧ impl_CountCalmReached.f 100000 4 4 = some (90, true) := by
  refine ⟨?_, cuC44c⟩
  obtain ⟨R, hR, h1⟩ := map_some cuC44a
  obtain ⟨R2, hR2, h2⟩ := map_some cuC44b
  rw [hR] at hR2
  obtain rfl := Option.some.inj hR2
  rw [hR, Option.map_some, h1, h2]
theorem cuCount_of {cn m : Int} {c N : Nat} (hg : goodU cn m = true) (h1 : (spec_cuSize.f cn m).map (fun z => wrap64 (2 * z)) = some (N : Int)) (h0 : 0 < N) (hN : N ≤ 1000) {K : Nat} {d : Int} (hd : d = (c : Int)) (h : (cuR K N cn m).map (fun r => (r.1.length, cntI r.1 N)) = some (N, c) ∧ impl_CountCalmReached.f K cn m = some (d, true)) : Ev (fun k => spec_CountCalmReached.f k cn m) (d, true) ∧ Ev (fun k => impl_CountCalmReached.f k cn m) (d, true) := by
  obtain ⟨h, h2⟩ := h
  obtain ⟨R, hR, hc⟩ := map_some h
  obtain ⟨c1, c2⟩ := Prod.mk.inj hc
  refine ⟨?_, ev_up (f := fun k => impl_CountCalmReached.f k cn m) (fun k => impl_CountCalmReached.mono cn m k) h2⟩
  unfold spec_CountCalmReached.f
  rw [cuGood_eq, hg]
  simp only [Option.bind_some, if_true]
  refine Ev.bind (cuFar_of h1 h0 hN hR) ?_
  have hq := cuCount_loop R.1 [] (by simp; omega)
  rw [List.nil_append] at hq
  have e : cntI R.1 R.1.length = c := by rw [c1]; exact c2
  rw [e, ← hd] at hq
  exact hq
theorem FnExactCountCalmReached_both (cn m : Int) : ∃ rr : Int × Bool, Ev (fun k => spec_CountCalmReached.f k cn m) rr ∧ Ev (fun k => impl_CountCalmReached.f k cn m) rr ∧ True := by
  cases hg : goodU cn m with
  | false =>
    unfold spec_CountCalmReached.f impl_CountCalmReached.f
    rw [cuGood_eq, isCompany_eq, hg]
    refine ⟨(0, false), ?_, ?_, trivial⟩
    · simp only [Option.bind_some, Bool.false_eq_true, if_false]; exact Ev.now _
    · simp only [Option.bind_some, Bool.false_eq_true, if_false]; exact Ev.now _
  | true =>
    obtain ⟨⟨h0, h1⟩, h2, h3⟩ := goodU_in hg
    rcases cases4 h0 h1 with rfl | rfl | rfl | rfl <;> rcases cases4 h2 h3 with rfl | rfl | rfl | rfl
    · have q := cuCount_of (c := 3) (N := 8) (by decide +kernel) (by decide +kernel) (by decide) (by decide) rfl cuC11; exact ⟨_, q.1, q.2, trivial⟩
    · have q := cuCount_of (c := 6) (N := 8) (by decide +kernel) (by decide +kernel) (by decide) (by decide) rfl cuC12; exact ⟨_, q.1, q.2, trivial⟩
    · have q := cuCount_of (c := 6) (N := 8) (by decide +kernel) (by decide +kernel) (by decide) (by decide) rfl cuC13; exact ⟨_, q.1, q.2, trivial⟩
    · have q := cuCount_of (c := 6) (N := 8) (by decide +kernel) (by decide +kernel) (by decide) (by decide) rfl cuC14; exact ⟨_, q.1, q.2, trivial⟩
    · have q := cuCount_of (c := 3) (N := 32) (by decide +kernel) (by decide +kernel) (by decide) (by decide) rfl cuC21; exact ⟨_, q.1, q.2, trivial⟩
    · have q := cuCount_of (c := 18) (N := 32) (by decide +kernel) (by decide +kernel) (by decide) (by decide) rfl cuC22; exact ⟨_, q.1, q.2, trivial⟩
    · have q := cuCount_of (c := 18) (N := 32) (by decide +kernel) (by decide +kernel) (by decide) (by decide) rfl cuC23; exact ⟨_, q.1, q.2, trivial⟩
    · have q := cuCount_of (c := 18) (N := 32) (by decide +kernel) (by decide +kernel) (by decide) (by decide) rfl cuC24; exact ⟨_, q.1, q.2, trivial⟩
    · have q := cuCount_of (c := 4) (N := 128) (by decide +kernel) (by decide +kernel) (by decide) (by decide) rfl cuC31; exact ⟨_, q.1, q.2, trivial⟩
    · have q := cuCount_of (c := 40) (N := 128) (by decide +kernel) (by decide +kernel) (by decide) (by decide) rfl cuC32; exact ⟨_, q.1, q.2, trivial⟩
    · have q := cuCount_of (c := 42) (N := 128) (by decide +kernel) (by decide +kernel) (by decide) (by decide) rfl cuC33; exact ⟨_, q.1, q.2, trivial⟩
    · have q := cuCount_of (c := 42) (N := 128) (by decide +kernel) (by decide +kernel) (by decide) (by decide) rfl cuC34; exact ⟨_, q.1, q.2, trivial⟩
    · have q := cuCount_of (c := 5) (N := 512) (by decide +kernel) (by decide +kernel) (by decide) (by decide) rfl cuC41; exact ⟨_, q.1, q.2, trivial⟩
    · have q := cuCount_of (c := 44) (N := 512) (by decide +kernel) (by decide +kernel) (by decide) (by decide) rfl cuC42; exact ⟨_, q.1, q.2, trivial⟩
    · have q := cuCount_of (c := 88) (N := 512) (by decide +kernel) (by decide +kernel) (by decide) (by decide) rfl cuC43; exact ⟨_, q.1, q.2, trivial⟩
    · have q := cuCount_of (c := 90) (N := 512) (by decide +kernel) (by decide +kernel) (by decide) (by decide) rfl cuC44; exact ⟨_, q.1, q.2, trivial⟩
theorem FnExactCountCalmReached_pure : ∀ (a0 a1 : Int), goodI a0 → goodI a1 → ∃ k, laws_FnExactCountCalmReached.f k a0 a1 = some true := by
  intro a0 a1 _ _
  obtain ⟨⟨r1, r2⟩, h3, h4, _⟩ := FnExactCountCalmReached_both a0 a1
  refine Ev.rounds ?_
  unfold laws_FnExactCountCalmReached.f laws_toCompany.f
  simp only [Option.bind_some]
  refine Ev.bind h3 (Ev.bind h4 ?_)
  simp only [if_true, bne_self_eq_false, Bool.false_eq_true, if_false]
  exact Ev.now _
end Go.Proofs.Ytibdeohiimjocaa.Pure
