import Derived.Test.YtibdeohiimjocaaC19zx0
import Derived.Test.YtibdeohiimjocaaC19zH0
import Derived.Test.YtibdeohiimjocaaC19zH1
import Derived.Test.YtibdeohiimjocaaC19zx1
import Derived.Test.YtibdeohiimjocaaC19zx2
import Derived.Test.YtibdeohiimjocaaC19zx6
import Derived.Test.YtibdeohiimjocaaC19zx8
import Derived.Test.YtibdeohiimjocaaC19zx14
import Derived.Test.YtibdeohiimjocaaC19zx7
import Derived.Test.YtibdeohiimjocaaC19zx15
namespace Go.Proofs.Ytibdeohiimjocaa.Pure
open Go.RowKit Go.Proofs.Ytibdeohiimjocaa.C19 Go.Proofs.Ytibdeohiimjocaa.H Go.Proofs.YtibdeohiimjocaaW.PrintWords Go.Proofs.YtibdeohiimjocaaW.PrintLast Go.Proofs.YtibdeohiimjocaaW.PrintMore
set_option linter.unusedVariables false
set_option linter.unusedSimpArgs false
def szSum {α : Type} (f : α → Nat) : List α → Nat
  | [] => 0
  | x :: l => f x + szSum f l
def n2 (l : List (List Int)) : Nat := l.length + szSum List.length l
def n3 (l : List (List (List Int))) : Nat := l.length + szSum n2 l
theorem szSum_bound {α : Type} (f : α → Nat) (l : List α) {B : Nat} (h : l.length + szSum f l ≤ B) : l.length ≤ B ∧ ∀ x ∈ l, f x ≤ B := by
  refine ⟨by omega, ?_⟩
  have h2 : szSum f l ≤ B := by omega
  clear h
  induction l with
  | nil => intro x hx; cases hx
  | cons y l ih =>
    simp only [szSum] at h2
    intro x hx
    rcases List.mem_cons.1 hx with rfl | hx
    · omega
    · exact ih (by omega) x hx
theorem mkS_bound (l : List Int) : ∀ a : Int, 0 ≤ a → a + l.length ≤ 1000000000000000 → a ≤ (mkS l a).1 ∧ (mkS l a).1 ≤ a + l.length := by
  induction l with
  | nil => intro a _ _; simp [mkS]
  | cons x l ih =>
    intro a h0 h1
    simp only [List.length_cons] at h1
    simp only [mkS]
    rw [wr_id (by omega) (by omega)]
    have := ih (a + 1) (by omega) (by omega)
    simp only [List.length_cons]
    omega
theorem mkS_len (l : List Int) : ∀ a : Int, (mkS l a).2.length = l.length := by
  induction l with
  | nil => intro a; rfl
  | cons x l ih => intro a; simp only [mkS, List.length_cons]; rw [ih]
theorem mkSS_len (l : List (List Int)) : ∀ a : Int, (mkSS l a).2.length = l.length := by
  induction l with
  | nil => intro a; rfl
  | cons x l ih => intro a; simp only [mkSS, List.length_cons]; rw [ih]
theorem mkSS_bound' (l : List (List Int)) : ∀ a : Int, 0 ≤ a → a + szSum List.length l ≤ 1000000000000000 → a ≤ (mkSS l a).1 ∧ (mkSS l a).1 ≤ a + szSum List.length l := by
  induction l with
  | nil => intro a _ _; simp [mkSS, szSum]
  | cons x l ih =>
    intro a h0 h1
    simp only [szSum] at h1
    have h2 := mkS_bound x a h0 (by omega)
    have := ih (mkS x a).1 (by omega) (by omega)
    simp only [mkSS, szSum]
    omega
theorem mkSS_bound (l : List (List Int)) (a : Int) (h0 : 0 ≤ a) (ha : a + n2 l ≤ 1000000000000000) : a ≤ (mkSS l a).1 ∧ (mkSS l a).1 ≤ a + n2 l := by
  simp only [n2] at ha ⊢
  have := mkSS_bound' l a h0 (by omega)
  omega
end Go.Proofs.Ytibdeohiimjocaa.Pure

namespace Go.Proofs.Ytibdeohiimjocaa.Pure
open Go.RowKit Go.Proofs.Ytibdeohiimjocaa.C19 Go.Proofs.Ytibdeohiimjocaa.H Go.Proofs.YtibdeohiimjocaaW.PrintWords Go.Proofs.YtibdeohiimjocaaW.PrintLast Go.Proofs.YtibdeohiimjocaaW.PrintMore
set_option linter.unusedVariables false
set_option linter.unusedSimpArgs false
theorem eqIntS_loop : ∀ (r s pre qre : List Int), pre.length = qre.length → r.length = s.length → (pre ++ r).length ≤ 9223372036854775807 → Ev (fun k => laws_eqIntS.l0 k (pre ++ r) (qre ++ s) (pre.length : Int)) (decide (r = s)) := by
  intro r
  induction r with
  | nil =>
    intro s pre qre hp hs hl
    obtain rfl : s = [] := List.eq_nil_of_length_eq_zero hs.symm
    refine Ev.step (f := fun _ => some _) (fun k => ?_) (Ev.now _)
    simp only [laws_eqIntS.l0]
    rw [if_neg (nlt_end pre)]
    rfl
  | cons x r ih =>
    intro s pre qre hp hs hl
    match s, hs with
    | y :: s, hs =>
      by_cases e : x = y
      · subst e
        refine Ev.step (fun k => ?_) (ev_eq (ih s (pre ++ [x]) (qre ++ [x]) (by simp [hp]) (by simpa using hs) (by simpa using hl)) (by simp))
        simp only [laws_eqIntS.l0]
        rw [if_pos (lt_mid pre x r), if_pos (zle _), if_pos (by rw [hp]; exact lt_mid qre x s), rd_mid, hp, rd_mid, if_pos rfl, ← hp, wr_mid pre x r hl, app_mid pre x r, app_mid qre x s]
      · refine Ev.step (f := fun _ => some _) (fun k => ?_) (Ev.now _)
        simp only [laws_eqIntS.l0]
        rw [if_pos (lt_mid pre x r), if_pos (zle _), if_pos (by rw [hp]; exact lt_mid qre y s), rd_mid, hp, rd_mid, if_neg e]
        simp [e]
theorem eqIntS_ev (l s : List Int) (hl : l.length ≤ 1048576) : Ev (fun k => laws_eqIntS.f k l s) (decide (l = s)) := by
  unfold laws_eqIntS.f
  by_cases h : l.length = s.length
  · simp only [if_pos (show (l.length : Int) = (s.length : Int) by omega)]
    exact eqIntS_loop l s [] [] rfl h (by simp; omega)
  · simp only [if_neg (show ¬ (l.length : Int) = (s.length : Int) by omega)]
    refine ev_eq (Ev.now _) ?_
    have : l ≠ s := fun e => h (by rw [e])
    simp [this]
theorem heldIntS_loop : ∀ (r pre : List Int) (a : Int), (pre ++ r).length ≤ 9223372036854775807 → Ev (fun k => laws_heldIntS.l0 k (pre ++ (mkS r a).2) a (pre.length : Int)) (mkS r a).1 := by
  intro r
  induction r with
  | nil =>
    intro pre a hl
    refine Ev.step (f := fun _ => some a) (fun k => ?_) (Ev.now _)
    show laws_heldIntS.l0 (k + 1) (pre ++ []) a (pre.length : Int) = some a
    simp only [laws_heldIntS.l0]
    rw [if_neg (nlt_end pre)]
  | cons x r ih =>
    intro pre a hl
    refine Ev.step (fun k => ?_) (ev_eq (ih (pre ++ [a]) (wrap64 (a + 1)) (by simpa using hl)) (by simp [mkS]))
    show laws_heldIntS.l0 (k + 1) (pre ++ (a) :: (mkS r (wrap64 (a + 1))).2) a (pre.length : Int) = _
    simp only [laws_heldIntS.l0]
    rw [if_pos (lt_mid pre (a) _), if_pos (zle _), rd_mid, if_pos rfl, wr_mid pre (a) _ (by simp [mkS_len] at hl ⊢; omega), app_mid pre (a)]
theorem heldIntS_ev (l : List Int) (a : Int) (h0 : 0 ≤ a) (ha : a + l.length ≤ 1000000000000000) (hl : l.length ≤ 1048576) : Ev (fun k => laws_heldIntS.f k (mkS l a).2 a) (mkS l a).1 := heldIntS_loop l [] a (by simp; omega)
theorem rd_L2_mid (pre : List (List Int)) (x : List Int) (r : List (List Int)) : rd_L1 (pre ++ x :: r) (pre.length : Int) = x := by simp [rd_L1]
theorem eqIntSS_loop : ∀ (r s pre qre : List (List Int)), pre.length = qre.length → r.length = s.length → (pre ++ r).length ≤ 9223372036854775807 → (∀ x ∈ r, List.length x ≤ 1048576) → Ev (fun k => laws_eqIntSS.l0 k (pre ++ r) (qre ++ s) (pre.length : Int)) (decide (r = s)) := by
  intro r
  induction r with
  | nil =>
    intro s pre qre hp hs hl hx
    obtain rfl : s = [] := List.eq_nil_of_length_eq_zero hs.symm
    refine Ev.step (f := fun _ => some _) (fun k => ?_) (Ev.now _)
    simp only [laws_eqIntSS.l0]
    rw [if_neg (nlt_end pre)]
    rfl
  | cons x r ih =>
    intro s pre qre hp hs hl hx
    match s, hs with
    | y :: s, hs =>
      refine Ev.step (f := fun k => (laws_eqIntS.f k x y).bind fun t => if t = true then laws_eqIntSS.l0 k (pre ++ x :: r) (qre ++ y :: s) (wrap64 ((pre.length : Int) + 1)) else some false) (fun k => ?_) (Ev.bind (eqIntS_ev x y (hx x (by simp))) ?_)
      · simp only [laws_eqIntSS.l0]
        rw [if_pos (lt_mid pre x r), if_pos (zle _), if_pos (by rw [hp]; exact lt_mid qre y s), rd_L2_mid, hp, rd_L2_mid, ← hp]
      · by_cases e : x = y
        · subst e
          simp only [decide_true, if_true]
          rw [wr_mid pre x r hl, app_mid pre x r, app_mid qre x s]
          exact ev_eq (ih s (pre ++ [x]) (qre ++ [x]) (by simp [hp]) (by simpa using hs) (by simpa using hl) (fun y hy => hx y (by simp [hy]))) (by simp)
        · simp only [decide_eq_false e, if_neg Bool.false_ne_true]
          exact ev_eq (Ev.now _) (by simp [e])
theorem eqIntSS_ev (l s : List (List Int)) (hl : n2 l ≤ 1048576) : Ev (fun k => laws_eqIntSS.f k l s) (decide (l = s)) := by
  have h1 := szSum_bound List.length l (by simpa only [n2] using hl)
  unfold laws_eqIntSS.f
  by_cases h : l.length = s.length
  · simp only [if_pos (show (l.length : Int) = (s.length : Int) by omega)]
    exact eqIntSS_loop l s [] [] rfl h (by simp; omega) h1.2
  · simp only [if_neg (show ¬ (l.length : Int) = (s.length : Int) by omega)]
    refine ev_eq (Ev.now _) ?_
    have : l ≠ s := fun e => h (by rw [e])
    simp [this]
theorem heldIntSS_loop : ∀ (r pre : List (List Int)) (a : Int), 0 ≤ a → a + szSum List.length r ≤ 1000000000000000 → (pre ++ r).length ≤ 9223372036854775807 → (∀ x ∈ r, List.length x ≤ 1048576) → Ev (fun k => laws_heldIntSS.l0 k (pre ++ (mkSS r a).2) a (pre.length : Int)) (mkSS r a).1 := by
  intro r
  induction r with
  | nil =>
    intro pre a h0 ha hl hx
    refine Ev.step (f := fun _ => some a) (fun k => ?_) (Ev.now _)
    show laws_heldIntSS.l0 (k + 1) (pre ++ []) a (pre.length : Int) = some a
    simp only [laws_heldIntSS.l0]
    rw [if_neg (nlt_end pre)]
  | cons x r ih =>
    intro pre a h0 ha hl hx
    simp only [szSum] at ha
    have hb := mkS_bound x a h0 (by omega)
    refine Ev.step (f := fun k => (laws_heldIntS.f k (mkS x a).2 a).bind fun t => if t < 0 then some (-1) else laws_heldIntSS.l0 k (pre ++ (mkS x a).2 :: (mkSS r (mkS x a).1).2) t (wrap64 ((pre.length : Int) + 1))) (fun k => ?_) (Ev.bind (heldIntS_ev x a h0 (by omega) (hx x (by simp))) ?_)
    · show laws_heldIntSS.l0 (k + 1) (pre ++ (mkS x a).2 :: (mkSS r (mkS x a).1).2) a (pre.length : Int) = _
      simp only [laws_heldIntSS.l0]
      rw [if_pos (lt_mid pre _ _), if_pos (zle _), rd_L2_mid]
    · simp only [if_neg (show ¬ (mkS x a).1 < 0 by omega)]
      rw [wr_mid pre _ _ (by simp [mkSS_len] at hl ⊢; omega), app_mid pre]
      exact ih (pre ++ [_]) _ (by omega) (by omega) (by simpa using hl) (fun y hy => hx y (by simp [hy]))
theorem heldIntSS_ev (l : List (List Int)) (a : Int) (h0 : 0 ≤ a) (ha : a + n2 l ≤ 1000000000000000) (hl : n2 l ≤ 1048576) : Ev (fun k => laws_heldIntSS.f k (mkSS l a).2 a) (mkSS l a).1 := by
  have h1 := szSum_bound List.length l (by simpa only [n2] using hl)
  exact heldIntSS_loop l [] a h0 (by simp only [n2] at ha; omega) (by simp; omega) h1.2
theorem markIntSS_ev (l : List (List Int)) (a : Int) : laws_markIntSS.f l a = some (mkSS l a) := rfl
theorem toCompany_ev (f0 : Int) (f1 : Int)  : laws_toCompany.f f0 f1 = some (f0, f1) := rfl
end Go.Proofs.Ytibdeohiimjocaa.Pure

namespace Go.Proofs.Ytibdeohiimjocaa.Pure
open Go.RowKit Go.Proofs.Ytibdeohiimjocaa.C19 Go.Proofs.Ytibdeohiimjocaa.H Go.Proofs.YtibdeohiimjocaaW.PrintWords Go.Proofs.YtibdeohiimjocaaW.PrintLast Go.Proofs.YtibdeohiimjocaaW.PrintMore
set_option linter.unusedVariables false
set_option linter.unusedSimpArgs false
theorem ev_up {α : Type} {f : Nat → Option α} (hm : ∀ k, LeO (f k) (f (k + 1))) {K : Nat} {r : α} (h : f K = some r) : Ev f r := by
  refine ⟨K, fun k hk => ?_⟩
  induction k with
  | zero => rw [show K = 0 by omega] at h; exact h
  | succ k ih =>
    by_cases e : K = k + 1
    · rw [← e]; exact h
    · exact hm k r (ih (by omega))
theorem map_some {α β : Type} {o : Option α} {f : α → β} {b : β} (h : o.map f = some b) : ∃ a, o = some a ∧ f a = b := by
  cases o with
  | none => cases h
  | some a => exact ⟨a, rfl, Option.some.inj h⟩
theorem cases4 {a : Int} (h0 : 1 ≤ a) (h1 : a ≤ 4) : a = 1 ∨ a = 2 ∨ a = 3 ∨ a = 4 := by omega
def goodU (cn m : Int) : Bool := inB 1 4 cn && inB 1 4 m
theorem goodU_in {cn m : Int} (h : goodU cn m = true) : (1 ≤ cn ∧ cn ≤ 4) ∧ 1 ≤ m ∧ m ≤ 4 := by
  unfold goodU inB at h
  simp only [Bool.and_eq_true, decide_eq_true_eq] at h
  exact h
theorem cuGood_eq (cn m : Int) : spec_cuGood.f cn m = some (goodU cn m) := by
  unfold spec_cuGood.f spec_l1In.f goodU inB
  by_cases h1 : 1 ≤ cn <;> by_cases h2 : cn ≤ 4 <;> by_cases h3 : 1 ≤ m <;> by_cases h4 : m ≤ 4 <;> simp [h1, h2, h3, h4]
theorem isCompany_eq (cn m : Int) : impl_IsCompany.f cn m = some (goodU cn m) := by
  unfold impl_IsCompany.f impl_in.f goodU inB
  by_cases h1 : 1 ≤ cn <;> by_cases h2 : cn ≤ 4 <;> by_cases h3 : 1 ≤ m <;> by_cases h4 : m ≤ 4 <;> simp [h1, h2, h3, h4]
end Go.Proofs.Ytibdeohiimjocaa.Pure

namespace Go.Proofs.Ytibdeohiimjocaa.Pure
open Go.RowKit Go.Proofs.Ytibdeohiimjocaa.C19 Go.Proofs.Ytibdeohiimjocaa.H Go.Proofs.YtibdeohiimjocaaW.PrintWords Go.Proofs.YtibdeohiimjocaaW.PrintLast Go.Proofs.YtibdeohiimjocaaW.PrintMore
set_option linter.unusedVariables false
set_option linter.unusedSimpArgs false
def cuRs (K N : Nat) (cn m s : Int) : Option (List Int × List Int) := spec_cuFar.l1 K ((List.replicate N (-1)).set s.toNat 0) ((List.replicate N 0).set s.toNat 1) [s] 0 cn m
theorem cuFar_fills (cn m s : Int) (x7 : List Int) (R : List Int × List Int) (hs : 0 ≤ s) : ∀ (n : Nat) (pre : List Int), (∀ v ∈ pre, v = -1) → pre.length + n ≤ 1000 → s < ((pre.length + n : Nat) : Int) → s < (x7.length : Int) → Ev (fun k => spec_cuFar.l1 k ((List.replicate (pre.length + n) (-1)).set s.toNat 0) (x7.set s.toNat 1) [s] 0 cn m) R →
    Ev (fun k => spec_cuFar.l0 k s (pre ++ List.replicate n 0) x7 ((pre.length + n : Nat) : Int) (pre.length : Int) cn m) R := by
  intro n
  induction n with
  | zero =>
    intro pre hp hl h0 h7 h
    have e : pre = List.replicate (pre.length + 0) (-1) := List.eq_replicate_iff.2 ⟨by simp, hp⟩
    refine Ev.step (fun k => spec_cuFar.l0.eq_2 ..) ?_
    rw [show pre ++ List.replicate 0 0 = pre by simp]
    rw [← e] at h
    simp only [if_neg (show ¬ (pre.length : Int) < ((pre.length + 0 : Nat) : Int) by omega), if_pos hs, if_pos (show s < (pre.length : Int) by omega), if_pos h7]
    exact h
  | succ n ih =>
    intro pre hp hl h0 h7 h
    refine Ev.step (fun k => spec_cuFar.l0.eq_2 ..) ?_
    rw [List.replicate_succ, set_mid, wr_id (a := (pre.length : Int) + 1) (by omega) (by omega)]
    simp only [if_pos (show (pre.length : Int) < ((pre.length + (n + 1) : Nat) : Int) by omega), if_pos (zle pre.length), if_pos (lt_mid pre (0 : Int) (List.replicate n 0))]
    rw [app_mid]
    have := ih (pre ++ [-1]) (fun v hv => by
      rcases List.mem_append.1 hv with hv | hv
      · exact hp v hv
      · simpa using hv) (by simp; omega) (by simp; omega) h7 (by rw [show (pre ++ [(-1 : Int)]).length + n = pre.length + (n + 1) by simp; omega]; exact h)
    rw [show ((pre ++ [(-1 : Int)]).length + n : Nat) = pre.length + (n + 1) by simp; omega, show (((pre ++ [(-1 : Int)]).length : Nat) : Int) = (pre.length : Int) + 1 by simp] at this
    exact this
theorem cuFar_ofs {cn m s : Int} {N : Nat} (h1 : (spec_cuSize.f cn m).map (fun z => wrap64 (2 * z)) = some (N : Int)) (h0 : 0 ≤ s) (hsN : s < (N : Int)) (hN : N ≤ 1000) {K : Nat} {R : List Int × List Int} (h : cuRs K N cn m s = some R) : Ev (fun k => spec_cuFar.f k cn m s) R := by
  obtain ⟨z, hz, hw⟩ := map_some h1
  unfold spec_cuFar.f
  have hup : Ev (fun k => spec_cuFar.l1 k ((List.replicate N (-1)).set s.toNat 0) ((List.replicate N 0).set s.toNat 1) [s] 0 cn m) R := ev_up (fun k => (spec_cuFar.mono_l k).2.1 _ _ _ _ _ _) h
  have hf := cuFar_fills cn m s (List.replicate N 0) R h0 N [] (by simp) (by simp; omega) (by simpa using hsN) (by simpa using hsN) (by simpa using hup)
  simp only [hz, Option.bind_some, hw, if_pos (show (0 : Int) ≤ (N : Int) by omega), Int.toNat_natCast, if_pos (show N ≤ 35184372088832 by omega), List.length_replicate]
  simpa using hf
end Go.Proofs.Ytibdeohiimjocaa.Pure

namespace Go.Proofs.Ytibdeohiimjocaa.Pure
open Go.RowKit Go.Proofs.Ytibdeohiimjocaa.C19 Go.Proofs.Ytibdeohiimjocaa.H Go.Proofs.YtibdeohiimjocaaW.PrintWords Go.Proofs.YtibdeohiimjocaaW.PrintLast Go.Proofs.YtibdeohiimjocaaW.PrintMore
set_option linter.unusedVariables false
set_option linter.unusedSimpArgs false
def frV : Int → Int → List (List Int) × Bool
  | 1, 2 => ([[0, 1]], true)
  | 1, 3 => ([[0, 1]], true)
  | 1, 4 => ([[0, 1]], true)
  | 2, 2 => ([[0, 1], [0], [0, 2], [1], [1, 3]], true)
  | 2, 3 => ([[0, 1], [0], [0, 2, 3]], true)
  | 2, 4 => ([[0, 1, 2, 3]], true)
  | 3, 2 => ([[0, 1], [0], [3, 5], [1], [2, 4], [2, 3], [0, 2], [5], [1, 3], [1], [1, 5]], true)
  | 3, 3 => ([[0, 1], [0], [0, 2, 4], [1], [1, 3, 5]], true)
  | 3, 4 => ([[0, 1, 2, 3], [0, 1], [0, 1, 4, 5]], true)
  | 4, 3 => ([[0, 1], [0], [0, 2, 3], [0, 1], [0, 4, 6], [3], [1, 3], [1], [1, 5, 7]], true)
  | 4, 4 => ([[0, 1], [0], [0, 2, 4, 6], [1], [1, 3, 5, 7]], true)
  | _, _ => ([], false)
def frTail (K : Nat) (cn m : Int) (far : List Int) : Option (List (List Int) × Bool) := if 0 < (far.length : Int) then (if rd far 0 < 0 then some ([], false) else spec_FirstRows.l0 K far [] 0 cn m) else none
theorem frRef_of {cn m z : Int} {N : Nat} (hg : goodU cn m = true) (hz : spec_cuSize.f cn m = some z) (h1 : (N : Int) = 2 * z) (h0 : 0 < N) (hN : N ≤ 1000) {K : Nat} {r : List (List Int) × Bool} (h : (cuRs K N cn m ((N : Int) - 1)).bind (fun R => frTail K cn m R.1) = some r) : Ev (fun k => spec_FirstRows.f k cn m) r := by
  obtain ⟨R, hR, ht⟩ := Option.bind_eq_some_iff.mp h
  have w1 : wrap64 (2 * z) = (N : Int) := by rw [← h1]; exact wr_id (by omega) (by omega)
  have w2 : wrap64 ((N : Int) - 1) = (N : Int) - 1 := wr_id (by omega) (by omega)
  unfold spec_FirstRows.f
  rw [cuGood_eq, hg, hz]
  simp only [Option.bind_some, if_true, w1, w2]
  refine Ev.bind (cuFar_ofs (by rw [hz, Option.map_some, w1]) (by omega) (by omega) hN hR) ?_
  unfold frTail at ht
  split at ht
  · rename_i hp
    simp only [if_pos hp]
    split at ht
    · rename_i hq
      simp only [if_pos hq]
      rw [← Option.some.inj ht]
      exact Ev.now _
    · rename_i hq
      simp only [if_neg hq]
      exact ev_up (fun k => (spec_FirstRows.mono_l k).1 _ _ _ _ _) ht
  · cases ht
set_option maxRecDepth 100000 in
theorem frS11 : (cuRs 100000 8 1 1 ((8 : Nat) - 1)).bind (fun R => frTail 100000 1 1 R.1) = some (frV 1 1) := by decide +kernel
set_option maxRecDepth 100000 in
theorem frI11 : impl_FirstRows.f 100000 1 1 = some (frV 1 1) := by decide +kernel
set_option maxRecDepth 100000 in
theorem frS12 : (cuRs 100000 8 1 2 ((8 : Nat) - 1)).bind (fun R => frTail 100000 1 2 R.1) = some (frV 1 2) := by decide +kernel
set_option maxRecDepth 100000 in
theorem frI12 : impl_FirstRows.f 100000 1 2 = some (frV 1 2) := by decide +kernel
set_option maxRecDepth 100000 in
theorem frS13 : (cuRs 100000 8 1 3 ((8 : Nat) - 1)).bind (fun R => frTail 100000 1 3 R.1) = some (frV 1 3) := by decide +kernel
set_option maxRecDepth 100000 in
theorem frI13 : impl_FirstRows.f 100000 1 3 = some (frV 1 3) := by decide +kernel
set_option maxRecDepth 100000 in
theorem frS14 : (cuRs 100000 8 1 4 ((8 : Nat) - 1)).bind (fun R => frTail 100000 1 4 R.1) = some (frV 1 4) := by decide +kernel
set_option maxRecDepth 100000 in
theorem frI14 : impl_FirstRows.f 100000 1 4 = some (frV 1 4) := by decide +kernel
set_option maxRecDepth 100000 in
theorem frS21 : (cuRs 100000 32 2 1 ((32 : Nat) - 1)).bind (fun R => frTail 100000 2 1 R.1) = some (frV 2 1) := by decide +kernel
set_option maxRecDepth 100000 in
theorem frI21 : impl_FirstRows.f 100000 2 1 = some (frV 2 1) := by decide +kernel
set_option maxRecDepth 100000 in
theorem frS22 : (cuRs 100000 32 2 2 ((32 : Nat) - 1)).bind (fun R => frTail 100000 2 2 R.1) = some (frV 2 2) := by decide +kernel
set_option maxRecDepth 100000 in
theorem frI22 : impl_FirstRows.f 100000 2 2 = some (frV 2 2) := by decide +kernel
set_option maxRecDepth 100000 in
theorem frS23 : (cuRs 100000 32 2 3 ((32 : Nat) - 1)).bind (fun R => frTail 100000 2 3 R.1) = some (frV 2 3) := by decide +kernel
set_option maxRecDepth 100000 in
theorem frI23 : impl_FirstRows.f 100000 2 3 = some (frV 2 3) := by decide +kernel
set_option maxRecDepth 100000 in
theorem frS24 : (cuRs 100000 32 2 4 ((32 : Nat) - 1)).bind (fun R => frTail 100000 2 4 R.1) = some (frV 2 4) := by decide +kernel
set_option maxRecDepth 100000 in
theorem frI24 : impl_FirstRows.f 100000 2 4 = some (frV 2 4) := by decide +kernel
set_option maxRecDepth 100000 in
theorem frS31 : (cuRs 100000 128 3 1 ((128 : Nat) - 1)).bind (fun R => frTail 100000 3 1 R.1) = some (frV 3 1) := by decide +kernel
set_option maxRecDepth 100000 in
theorem frI31 : impl_FirstRows.f 100000 3 1 = some (frV 3 1) := by decide +kernel
set_option maxRecDepth 100000 in
theorem frS32 : (cuRs 100000 128 3 2 ((128 : Nat) - 1)).bind (fun R => frTail 100000 3 2 R.1) = some (frV 3 2) := by decide +kernel
set_option maxRecDepth 100000 in
theorem frI32 : impl_FirstRows.f 100000 3 2 = some (frV 3 2) := by decide +kernel
set_option maxRecDepth 100000 in
theorem frS33 : (cuRs 100000 128 3 3 ((128 : Nat) - 1)).bind (fun R => frTail 100000 3 3 R.1) = some (frV 3 3) := by decide +kernel
set_option maxRecDepth 100000 in
theorem frI33 : impl_FirstRows.f 100000 3 3 = some (frV 3 3) := by decide +kernel
set_option maxRecDepth 100000 in
theorem frS34 : (cuRs 100000 128 3 4 ((128 : Nat) - 1)).bind (fun R => frTail 100000 3 4 R.1) = some (frV 3 4) := by decide +kernel
set_option maxRecDepth 100000 in
theorem frI34 : impl_FirstRows.f 100000 3 4 = some (frV 3 4) := by decide +kernel
end Go.Proofs.Ytibdeohiimjocaa.Pure

namespace Go.Proofs.Ytibdeohiimjocaa.Pure
open Go.RowKit Go.Proofs.Ytibdeohiimjocaa.C19 Go.Proofs.Ytibdeohiimjocaa.H Go.Proofs.YtibdeohiimjocaaW.PrintWords Go.Proofs.YtibdeohiimjocaaW.PrintLast Go.Proofs.YtibdeohiimjocaaW.PrintMore
set_option linter.unusedVariables false
set_option linter.unusedSimpArgs false
set_option maxRecDepth 100000 in
theorem frS41 : (cuRs 100000 512 4 1 ((512 : Nat) - 1)).bind (fun R => frTail 100000 4 1 R.1) = some (frV 4 1) := by decide +kernel
set_option maxRecDepth 100000 in
theorem frI41 : impl_FirstRows.f 100000 4 1 = some (frV 4 1) := by decide +kernel
set_option maxRecDepth 100000 in
theorem frS42 : (cuRs 100000 512 4 2 ((512 : Nat) - 1)).bind (fun R => frTail 100000 4 2 R.1) = some (frV 4 2) := by decide +kernel
set_option maxRecDepth 100000 in
theorem frI42 : impl_FirstRows.f 100000 4 2 = some (frV 4 2) := by decide +kernel
set_option maxRecDepth 100000 in
theorem frS43 : (cuRs 100000 512 4 3 ((512 : Nat) - 1)).bind (fun R => frTail 100000 4 3 R.1) = some (frV 4 3) := by decide +kernel
set_option maxRecDepth 100000 in
theorem frI43 : impl_FirstRows.f 100000 4 3 = some (frV 4 3) := by decide +kernel
end Go.Proofs.Ytibdeohiimjocaa.Pure

namespace Go.Proofs.Ytibdeohiimjocaa.Pure
open Go.RowKit Go.Proofs.Ytibdeohiimjocaa.C19 Go.Proofs.Ytibdeohiimjocaa.H Go.Proofs.YtibdeohiimjocaaW.PrintWords Go.Proofs.YtibdeohiimjocaaW.PrintLast Go.Proofs.YtibdeohiimjocaaW.PrintMore
set_option linter.unusedVariables false
set_option linter.unusedSimpArgs false
def cntU (l : List Int) (n : Nat) : Nat := (List.range n).foldl (fun (c : Nat) i => if 0 ≤ rd l ((i : Nat) : Int) then c.succ else c) 0
set_option maxRecDepth 100000 in
theorem frA44 : (cuRs 100000 512 4 4 ((512 : Nat) - 1)).bind (fun R => if cntU R.1 512 = 90 then frTail 100000 4 4 R.1 else none) = some (frV 4 4) := by decide +kernel
theorem frS44 : (cuRs 100000 512 4 4 ((512 : Nat) - 1)).bind (fun R => frTail 100000 4 4 R.1) = some (frV 4 4) := by
  obtain ⟨R, hR, h⟩ := Option.bind_eq_some_iff.mp frA44
  split at h
  · rw [hR]; exact h
  · cases h
set_option maxRecDepth 100000 in
theorem frI44 : impl_FirstRows.f 100000 4 4 = some (frV 4 4) := by decide +kernel
end Go.Proofs.Ytibdeohiimjocaa.Pure

namespace Go.Proofs.Ytibdeohiimjocaa.Pure
open Go.RowKit Go.Proofs.Ytibdeohiimjocaa.C19 Go.Proofs.Ytibdeohiimjocaa.H Go.Proofs.YtibdeohiimjocaaW.PrintWords Go.Proofs.YtibdeohiimjocaaW.PrintLast Go.Proofs.YtibdeohiimjocaaW.PrintMore
set_option linter.unusedVariables false
set_option linter.unusedSimpArgs false
theorem frI_of {cn m : Int} {K : Nat} {r : List (List Int) × Bool} (h : impl_FirstRows.f K cn m = some r) : Ev (fun k => impl_FirstRows.f k cn m) r := ev_up (f := fun k => impl_FirstRows.f k cn m) (fun k => impl_FirstRows.mono cn m k) h
theorem FnExactFirstRows_both (cn m : Int) : ∃ rr : List (List Int) × Bool, Ev (fun k => spec_FirstRows.f k cn m) rr ∧ Ev (fun k => impl_FirstRows.f k cn m) rr ∧ n2 rr.1 ≤ 1048576 := by
  cases hg : goodU cn m with
  | false =>
    unfold spec_FirstRows.f impl_FirstRows.f
    rw [cuGood_eq, isCompany_eq, hg]
    refine ⟨([], false), ?_, ?_, by decide⟩
    · simp only [Option.bind_some, Bool.false_eq_true, if_false]; exact Ev.now _
    · simp only [Option.bind_some, Bool.false_eq_true, if_false]; exact Ev.now _
  | true =>
    obtain ⟨⟨h0, h1⟩, h2, h3⟩ := goodU_in hg
    rcases cases4 h0 h1 with rfl | rfl | rfl | rfl <;> rcases cases4 h2 h3 with rfl | rfl | rfl | rfl
    · exact ⟨frV 1 1, frRef_of (N := 8) (z := 4) hg (by decide +kernel) (by decide) (by decide) (by decide) frS11, frI_of frI11, by decide⟩
    · exact ⟨frV 1 2, frRef_of (N := 8) (z := 4) hg (by decide +kernel) (by decide) (by decide) (by decide) frS12, frI_of frI12, by decide⟩
    · exact ⟨frV 1 3, frRef_of (N := 8) (z := 4) hg (by decide +kernel) (by decide) (by decide) (by decide) frS13, frI_of frI13, by decide⟩
    · exact ⟨frV 1 4, frRef_of (N := 8) (z := 4) hg (by decide +kernel) (by decide) (by decide) (by decide) frS14, frI_of frI14, by decide⟩
    · exact ⟨frV 2 1, frRef_of (N := 32) (z := 16) hg (by decide +kernel) (by decide) (by decide) (by decide) frS21, frI_of frI21, by decide⟩
    · exact ⟨frV 2 2, frRef_of (N := 32) (z := 16) hg (by decide +kernel) (by decide) (by decide) (by decide) frS22, frI_of frI22, by decide⟩
    · exact ⟨frV 2 3, frRef_of (N := 32) (z := 16) hg (by decide +kernel) (by decide) (by decide) (by decide) frS23, frI_of frI23, by decide⟩
    · exact ⟨frV 2 4, frRef_of (N := 32) (z := 16) hg (by decide +kernel) (by decide) (by decide) (by decide) frS24, frI_of frI24, by decide⟩
    · exact ⟨frV 3 1, frRef_of (N := 128) (z := 64) hg (by decide +kernel) (by decide) (by decide) (by decide) frS31, frI_of frI31, by decide⟩
    · exact ⟨frV 3 2, frRef_of (N := 128) (z := 64) hg (by decide +kernel) (by decide) (by decide) (by decide) frS32, frI_of frI32, by decide⟩
    · exact ⟨frV 3 3, frRef_of (N := 128) (z := 64) hg (by decide +kernel) (by decide) (by decide) (by decide) frS33, frI_of frI33, by decide⟩
    · exact ⟨frV 3 4, frRef_of (N := 128) (z := 64) hg (by decide +kernel) (by decide) (by decide) (by decide) frS34, frI_of frI34, by decide⟩
    · exact ⟨frV 4 1, frRef_of (N := 512) (z := 256) hg (by decide +kernel) (by decide) (by decide) (by decide) frS41, frI_of frI41, by decide⟩
    · exact ⟨frV 4 2, frRef_of (N := 512) (z := 256) hg (by decide +kernel) (by decide) (by decide) (by decide) frS42, frI_of frI42, by decide⟩
    · exact ⟨frV 4 3, frRef_of (N := 512) (z := 256) hg (by decide +kernel) (by decide) (by decide) (by decide) frS43, frI_of frI43, by decide⟩
    · exact ⟨frV 4 4, frRef_of (N := 512) (z := 256) hg (by decide +kernel) (by decide) (by decide) (by decide) frS44, frI_of frI44, by decide⟩
theorem FnExactFirstRows_pure : ∀ (a0_0 : Int) (a0_1 : Int), goodI a0_0 → goodI a0_1 → ∃ k, laws_FnExactFirstRows.f k a0_0 a0_1 = some true := by
  intro a0_0 a0_1 g0_0 g0_1
  have et0 := ev_some (toCompany_ev a0_0 a0_1 )
  obtain ⟨rr, es, ei, hsm⟩ := FnExactFirstRows_both a0_0 a0_1
  obtain ⟨r0, r1⟩ := rr
  dsimp only at hsm
  have s0 := hsm
  have eq0 : Ev (fun k => laws_eqIntSS.f k r0 r0) true := ev_eq (eqIntSS_ev r0 r0 s0) (decide_eq_true rfl)
  have emr0 := ev_some (markIntSS_ev r0 (1))
  have bmr0 := mkSS_bound r0 (1) (by omega) (by omega)
  have nr0 : ¬ (mkSS r0 (1)).1 < 0 := by omega
  have eh0 := heldIntSS_ev r0 (1) (by omega) (by omega) s0
  clear bmr0
  refine Ev.rounds ?_
  unfold laws_FnExactFirstRows.f
  repeat (first | exact Ev.now _ | (refine Ev.bind (by assumption) ?_; try dsimp only) | (simp only [nr0, if_true, if_false, bne_self_eq_false, Bool.false_eq_true]) | refine Ev.step (fun k => laws_FnExactFirstRows.j0.eq_2 ..) ?_ | refine Ev.step (fun k => laws_FnExactFirstRows.j1.eq_2 ..) ?_ | refine Ev.step (fun k => laws_FnExactFirstRows.j2.eq_2 ..) ?_ | refine Ev.step (fun k => laws_FnExactFirstRows.j3.eq_2 ..) ?_ | refine Ev.step (fun k => laws_FnExactFirstRows.j4.eq_2 ..) ?_ | refine Ev.step (fun k => laws_FnExactFirstRows.j5.eq_2 ..) ?_)
end Go.Proofs.Ytibdeohiimjocaa.Pure
