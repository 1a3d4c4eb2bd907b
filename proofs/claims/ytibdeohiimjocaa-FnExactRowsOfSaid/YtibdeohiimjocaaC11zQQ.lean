import Derived.Test.YtibdeohiimjocaaC11zx0
import Derived.Test.YtibdeohiimjocaaC11zH0
import Derived.Test.YtibdeohiimjocaaC11zH1
import Derived.Test.YtibdeohiimjocaaC11zx1
import Derived.Test.YtibdeohiimjocaaC11zx10
import Derived.Test.YtibdeohiimjocaaC11zx7
import Derived.Test.YtibdeohiimjocaaC11zx8
import Derived.Test.YtibdeohiimjocaaC11zx9
import Derived.Test.YtibdeohiimjocaaC11zx2
import Derived.Test.YtibdeohiimjocaaC11zH2
import Derived.Test.YtibdeohiimjocaaC11zS
namespace Go.Proofs.Ytibdeohiimjocaa.Pure
open Go.RowKit Go.Proofs.Ytibdeohiimjocaa.C11 Go.Proofs.Ytibdeohiimjocaa.H Go.Proofs.YtibdeohiimjocaaW.PrintWords Go.Proofs.YtibdeohiimjocaaW.PrintLast Go.Proofs.YtibdeohiimjocaaW.PrintMore
set_option linter.unusedVariables false
set_option linter.unusedSimpArgs false
def szSum {α : Type} (f : α → Nat) : List α → Nat
  | [] => 0
  | x :: l => f x + szSum f l
def n2 (l : List (List Int)) : Nat := l.length + szSum List.length l
def n3 (l : List (List (List Int))) : Nat := l.length + szSum n2 l
theorem szSum_bound {α : Type} (f : α → Nat) (l : List α) {B : Nat} (h : l.length + szSum f l ≤ B) : l.length ≤ B ∧ ∀ x ∈ l, f x ≤ B := by
  refine ⟨by omega, ?_⟩
  have h2 : szSum f l ≤ B := by omega
  clear h
  induction l with
  | nil => intro x hx; cases hx
  | cons y l ih =>
    simp only [szSum] at h2
    intro x hx
    rcases List.mem_cons.1 hx with rfl | hx
    · omega
    · exact ih (by omega) x hx
theorem mkS_bound (l : List Int) : ∀ a : Int, 0 ≤ a → a + l.length ≤ 1000000000000000 → a ≤ (mkS l a).1 ∧ (mkS l a).1 ≤ a + l.length := by
  induction l with
  | nil => intro a _ _; simp [mkS]
  | cons x l ih =>
    intro a h0 h1
    simp only [List.length_cons] at h1
    simp only [mkS]
    rw [wr_id (by omega) (by omega)]
    have := ih (a + 1) (by omega) (by omega)
    simp only [List.length_cons]
    omega
theorem mkB_bound (l : List Bool) : ∀ a : Int, 0 ≤ a → a + l.length ≤ 1000000000000000 → a ≤ (mkB l a).1 ∧ (mkB l a).1 ≤ a + l.length := by
  induction l with
  | nil => intro a _ _; simp [mkB]
  | cons x l ih =>
    intro a h0 h1
    simp only [List.length_cons] at h1
    simp only [mkB]
    rw [wr_id (by omega) (by omega)]
    have := ih (a + 1) (by omega) (by omega)
    simp only [List.length_cons]
    omega
theorem mkS_len (l : List Int) : ∀ a : Int, (mkS l a).2.length = l.length := by
  induction l with
  | nil => intro a; rfl
  | cons x l ih => intro a; simp only [mkS, List.length_cons]; rw [ih]
theorem mkSS_len (l : List (List Int)) : ∀ a : Int, (mkSS l a).2.length = l.length := by
  induction l with
  | nil => intro a; rfl
  | cons x l ih => intro a; simp only [mkSS, List.length_cons]; rw [ih]
theorem mkSS_bound' (l : List (List Int)) : ∀ a : Int, 0 ≤ a → a + szSum List.length l ≤ 1000000000000000 → a ≤ (mkSS l a).1 ∧ (mkSS l a).1 ≤ a + szSum List.length l := by
  induction l with
  | nil => intro a _ _; simp [mkSS, szSum]
  | cons x l ih =>
    intro a h0 h1
    simp only [szSum] at h1
    have h2 := mkS_bound x a h0 (by omega)
    have := ih (mkS x a).1 (by omega) (by omega)
    simp only [mkSS, szSum]
    omega
theorem mkSS_bound (l : List (List Int)) (a : Int) (h0 : 0 ≤ a) (ha : a + n2 l ≤ 1000000000000000) : a ≤ (mkSS l a).1 ∧ (mkSS l a).1 ≤ a + n2 l := by
  simp only [n2] at ha ⊢
  have := mkSS_bound' l a h0 (by omega)
  omega
end Go.Proofs.Ytibdeohiimjocaa.Pure

namespace Go.Proofs.Ytibdeohiimjocaa.Pure
open Go.RowKit Go.Proofs.Ytibdeohiimjocaa.C11 Go.Proofs.Ytibdeohiimjocaa.H Go.Proofs.YtibdeohiimjocaaW.PrintWords Go.Proofs.YtibdeohiimjocaaW.PrintLast Go.Proofs.YtibdeohiimjocaaW.PrintMore
set_option linter.unusedVariables false
set_option linter.unusedSimpArgs false
theorem eqIntS_loop : ∀ (r s pre qre : List Int), pre.length = qre.length → r.length = s.length → (pre ++ r).length ≤ 9223372036854775807 → Ev (fun k => laws_eqIntS.l0 k (pre ++ r) (qre ++ s) (pre.length : Int)) (decide (r = s)) := by
  intro r
  induction r with
  | nil =>
    intro s pre qre hp hs hl
    obtain rfl : s = [] := List.eq_nil_of_length_eq_zero hs.symm
    refine Ev.step (f := fun _ => some _) (fun k => ?_) (Ev.now _)
    simp only [laws_eqIntS.l0]
    rw [if_neg (nlt_end pre)]
    rfl
  | cons x r ih =>
    intro s pre qre hp hs hl
    match s, hs with
    | y :: s, hs =>
      by_cases e : x = y
      · subst e
        refine Ev.step (fun k => ?_) (ev_eq (ih s (pre ++ [x]) (qre ++ [x]) (by simp [hp]) (by simpa using hs) (by simpa using hl)) (by simp))
        simp only [laws_eqIntS.l0]
        rw [if_pos (lt_mid pre x r), if_pos (zle _), if_pos (by rw [hp]; exact lt_mid qre x s), rd_mid, hp, rd_mid, if_pos rfl, ← hp, wr_mid pre x r hl, app_mid pre x r, app_mid qre x s]
      · refine Ev.step (f := fun _ => some _) (fun k => ?_) (Ev.now _)
        simp only [laws_eqIntS.l0]
        rw [if_pos (lt_mid pre x r), if_pos (zle _), if_pos (by rw [hp]; exact lt_mid qre y s), rd_mid, hp, rd_mid, if_neg e]
        simp [e]
theorem eqIntS_ev (l s : List Int) (hl : l.length ≤ 1048576) : Ev (fun k => laws_eqIntS.f k l s) (decide (l = s)) := by
  unfold laws_eqIntS.f
  by_cases h : l.length = s.length
  · simp only [if_pos (show (l.length : Int) = (s.length : Int) by omega)]
    exact eqIntS_loop l s [] [] rfl h (by simp; omega)
  · simp only [if_neg (show ¬ (l.length : Int) = (s.length : Int) by omega)]
    refine ev_eq (Ev.now _) ?_
    have : l ≠ s := fun e => h (by rw [e])
    simp [this]
theorem heldIntS_loop : ∀ (r pre : List Int) (a : Int), (pre ++ r).length ≤ 9223372036854775807 → Ev (fun k => laws_heldIntS.l0 k (pre ++ (mkS r a).2) a (pre.length : Int)) (mkS r a).1 := by
  intro r
  induction r with
  | nil =>
    intro pre a hl
    refine Ev.step (f := fun _ => some a) (fun k => ?_) (Ev.now _)
    show laws_heldIntS.l0 (k + 1) (pre ++ []) a (pre.length : Int) = some a
    simp only [laws_heldIntS.l0]
    rw [if_neg (nlt_end pre)]
  | cons x r ih =>
    intro pre a hl
    refine Ev.step (fun k => ?_) (ev_eq (ih (pre ++ [a]) (wrap64 (a + 1)) (by simpa using hl)) (by simp [mkS]))
    show laws_heldIntS.l0 (k + 1) (pre ++ (a) :: (mkS r (wrap64 (a + 1))).2) a (pre.length : Int) = _
    simp only [laws_heldIntS.l0]
    rw [if_pos (lt_mid pre (a) _), if_pos (zle _), rd_mid, if_pos rfl, wr_mid pre (a) _ (by simp [mkS_len] at hl ⊢; omega), app_mid pre (a)]
theorem heldIntS_ev (l : List Int) (a : Int) (h0 : 0 ≤ a) (ha : a + l.length ≤ 1000000000000000) (hl : l.length ≤ 1048576) : Ev (fun k => laws_heldIntS.f k (mkS l a).2 a) (mkS l a).1 := heldIntS_loop l [] a (by simp; omega)
def goodBoolS (l : List Bool) : Prop := l.length ≤ 9223372036854775807
theorem szBoolS_cases (l : List Bool) (a : Int) (h0 : 0 ≤ a) (ha : a ≤ 1048576) (hg : goodBoolS l) : ∃ t, laws_szBoolS.f l a = some t ∧ (t < 0 ∨ (0 ≤ t ∧ t + (l.length : Int) ≤ a)) := by
  have hl : l.length ≤ 9223372036854775807 := hg
  unfold laws_szBoolS.f
  rw [wr_id (by omega) (by omega)]
  by_cases h : a - (l.length : Int) < 0
  · exact ⟨-1, by rw [if_pos h], .inl (by omega)⟩
  · exact ⟨_, by rw [if_neg h], .inr ⟨by omega, by omega⟩⟩
theorem toBoolS_loop (x0 : List Bool) : ∀ (r pre suf : List Bool), x0 = pre ++ r → suf.length = r.length → x0.length ≤ 9223372036854775807 → Ev (fun k => laws_toBoolS.l0 k x0 (pre ++ suf) (pre.length : Int)) x0 := by
  intro r
  induction r with
  | nil =>
    intro pre suf e hs hl
    obtain rfl : suf = [] := List.eq_nil_of_length_eq_zero hs
    subst e
    refine Ev.step (f := fun _ => some _) (fun k => ?_) (Ev.now _)
    simp only [laws_toBoolS.l0]
    rw [if_neg (nlt_end pre)]
  | cons x r ih =>
    intro pre suf e hs hl
    match suf, hs with
    | y :: suf, hs =>
      subst e
      refine Ev.step (fun k => ?_) (ev_eq (ih (pre ++ [x]) suf (by simp) (by simpa using hs) hl) rfl)
      simp only [laws_toBoolS.l0]
      rw [if_pos (lt_mid pre x r), if_pos (zle _), if_pos (lt_mid pre y suf), rdOf_mid, set_mid, wr_mid pre x r hl, app_mid pre x suf]
theorem toBoolS_ev (l : List Bool) (hl : l.length ≤ 1048576) : Ev (fun k => laws_toBoolS.f k l) l := by
  unfold laws_toBoolS.f
  simp only [if_pos (zle l.length), if_pos (show ((l.length : Int)).toNat ≤ 281474976710656 by omega)]
  exact toBoolS_loop l l [] _ rfl (by simp) (by omega)
theorem markBoolS_loop : ∀ (r pre : List Bool) (a : Int), (pre ++ r).length ≤ 9223372036854775807 → Ev (fun k => laws_markBoolS.l0 k (pre ++ r) a (pre.length : Int)) ((mkB r a).1, pre ++ (mkB r a).2) := by
  intro r
  induction r with
  | nil =>
    intro pre a hl
    refine Ev.step (f := fun _ => some _) (fun k => ?_) (Ev.now _)
    simp only [laws_markBoolS.l0]
    rw [if_neg (nlt_end pre)]
    rfl
  | cons x r ih =>
    intro pre a hl
    refine Ev.step (fun k => ?_) (ev_eq (ih (pre ++ [Int.tmod a 3 == 0]) (wrap64 (a + 1)) (by simpa using hl)) (by simp [mkB]))
    simp only [laws_markBoolS.l0]
    rw [if_pos (lt_mid pre x r), if_pos (zle _), set_mid, wr_mid pre x r hl, app_mid pre (Int.tmod a 3 == 0) r]
    simp
theorem markBoolS_ev (l : List Bool) (a : Int) (hl : l.length ≤ 1048576) : Ev (fun k => laws_markBoolS.f k l a) (mkB l a) := markBoolS_loop l [] a (by simp; omega)
theorem eqBoolS_loop : ∀ (r s pre qre : List Bool), pre.length = qre.length → r.length = s.length → (pre ++ r).length ≤ 9223372036854775807 → Ev (fun k => laws_eqBoolS.l0 k (pre ++ r) (qre ++ s) (pre.length : Int)) (decide (r = s)) := by
  intro r
  induction r with
  | nil =>
    intro s pre qre hp hs hl
    obtain rfl : s = [] := List.eq_nil_of_length_eq_zero hs.symm
    refine Ev.step (f := fun _ => some _) (fun k => ?_) (Ev.now _)
    simp only [laws_eqBoolS.l0]
    rw [if_neg (nlt_end pre)]
    rfl
  | cons x r ih =>
    intro s pre qre hp hs hl
    match s, hs with
    | y :: s, hs =>
      by_cases e : x = y
      · subst e
        refine Ev.step (fun k => ?_) (ev_eq (ih s (pre ++ [x]) (qre ++ [x]) (by simp [hp]) (by simpa using hs) (by simpa using hl)) (by simp))
        simp only [laws_eqBoolS.l0]
        rw [if_pos (lt_mid pre x r), if_pos (zle _), if_pos (by rw [hp]; exact lt_mid qre x s), rdOf_mid, hp, rdOf_mid, if_neg (by simp), ← hp, wr_mid pre x r hl, app_mid pre x r, app_mid qre x s]
      · refine Ev.step (f := fun _ => some _) (fun k => ?_) (Ev.now _)
        simp only [laws_eqBoolS.l0]
        rw [if_pos (lt_mid pre x r), if_pos (zle _), if_pos (by rw [hp]; exact lt_mid qre y s), rdOf_mid, hp, rdOf_mid, if_pos (by simpa using e)]
        simp [e]
theorem eqBoolS_ev (l s : List Bool) (hl : l.length ≤ 1048576) : Ev (fun k => laws_eqBoolS.f k l s) (decide (l = s)) := by
  unfold laws_eqBoolS.f
  by_cases h : l.length = s.length
  · simp only [if_pos (show (l.length : Int) = (s.length : Int) by omega)]
    exact eqBoolS_loop l s [] [] rfl h (by simp; omega)
  · simp only [if_neg (show ¬ (l.length : Int) = (s.length : Int) by omega)]
    refine ev_eq (Ev.now _) ?_
    have : l ≠ s := fun e => h (by rw [e])
    simp [this]
theorem rd_L2_mid (pre : List (List Int)) (x : List Int) (r : List (List Int)) : rd_L1 (pre ++ x :: r) (pre.length : Int) = x := by simp [rd_L1]
theorem eqIntSS_loop : ∀ (r s pre qre : List (List Int)), pre.length = qre.length → r.length = s.length → (pre ++ r).length ≤ 9223372036854775807 → (∀ x ∈ r, List.length x ≤ 1048576) → Ev (fun k => laws_eqIntSS.l0 k (pre ++ r) (qre ++ s) (pre.length : Int)) (decide (r = s)) := by
  intro r
  induction r with
  | nil =>
    intro s pre qre hp hs hl hx
    obtain rfl : s = [] := List.eq_nil_of_length_eq_zero hs.symm
    refine Ev.step (f := fun _ => some _) (fun k => ?_) (Ev.now _)
    simp only [laws_eqIntSS.l0]
    rw [if_neg (nlt_end pre)]
    rfl
  | cons x r ih =>
    intro s pre qre hp hs hl hx
    match s, hs with
    | y :: s, hs =>
      refine Ev.step (f := fun k => (laws_eqIntS.f k x y).bind fun t => if t = true then laws_eqIntSS.l0 k (pre ++ x :: r) (qre ++ y :: s) (wrap64 ((pre.length : Int) + 1)) else some false) (fun k => ?_) (Ev.bind (eqIntS_ev x y (hx x (by simp))) ?_)
      · simp only [laws_eqIntSS.l0]
        rw [if_pos (lt_mid pre x r), if_pos (zle _), if_pos (by rw [hp]; exact lt_mid qre y s), rd_L2_mid, hp, rd_L2_mid, ← hp]
      · by_cases e : x = y
        · subst e
          simp only [decide_true, if_true]
          rw [wr_mid pre x r hl, app_mid pre x r, app_mid qre x s]
          exact ev_eq (ih s (pre ++ [x]) (qre ++ [x]) (by simp [hp]) (by simpa using hs) (by simpa using hl) (fun y hy => hx y (by simp [hy]))) (by simp)
        · simp only [decide_eq_false e, if_neg Bool.false_ne_true]
          exact ev_eq (Ev.now _) (by simp [e])
theorem eqIntSS_ev (l s : List (List Int)) (hl : n2 l ≤ 1048576) : Ev (fun k => laws_eqIntSS.f k l s) (decide (l = s)) := by
  have h1 := szSum_bound List.length l (by simpa only [n2] using hl)
  unfold laws_eqIntSS.f
  by_cases h : l.length = s.length
  · simp only [if_pos (show (l.length : Int) = (s.length : Int) by omega)]
    exact eqIntSS_loop l s [] [] rfl h (by simp; omega) h1.2
  · simp only [if_neg (show ¬ (l.length : Int) = (s.length : Int) by omega)]
    refine ev_eq (Ev.now _) ?_
    have : l ≠ s := fun e => h (by rw [e])
    simp [this]
theorem heldIntSS_loop : ∀ (r pre : List (List Int)) (a : Int), 0 ≤ a → a + szSum List.length r ≤ 1000000000000000 → (pre ++ r).length ≤ 9223372036854775807 → (∀ x ∈ r, List.length x ≤ 1048576) → Ev (fun k => laws_heldIntSS.l0 k (pre ++ (mkSS r a).2) a (pre.length : Int)) (mkSS r a).1 := by
  intro r
  induction r with
  | nil =>
    intro pre a h0 ha hl hx
    refine Ev.step (f := fun _ => some a) (fun k => ?_) (Ev.now _)
    show laws_heldIntSS.l0 (k + 1) (pre ++ []) a (pre.length : Int) = some a
    simp only [laws_heldIntSS.l0]
    rw [if_neg (nlt_end pre)]
  | cons x r ih =>
    intro pre a h0 ha hl hx
    simp only [szSum] at ha
    have hb := mkS_bound x a h0 (by omega)
    refine Ev.step (f := fun k => (laws_heldIntS.f k (mkS x a).2 a).bind fun t => if t < 0 then some (-1) else laws_heldIntSS.l0 k (pre ++ (mkS x a).2 :: (mkSS r (mkS x a).1).2) t (wrap64 ((pre.length : Int) + 1))) (fun k => ?_) (Ev.bind (heldIntS_ev x a h0 (by omega) (hx x (by simp))) ?_)
    · show laws_heldIntSS.l0 (k + 1) (pre ++ (mkS x a).2 :: (mkSS r (mkS x a).1).2) a (pre.length : Int) = _
      simp only [laws_heldIntSS.l0]
      rw [if_pos (lt_mid pre _ _), if_pos (zle _), rd_L2_mid]
    · simp only [if_neg (show ¬ (mkS x a).1 < 0 by omega)]
      rw [wr_mid pre _ _ (by simp [mkSS_len] at hl ⊢; omega), app_mid pre]
      exact ih (pre ++ [_]) _ (by omega) (by omega) (by simpa using hl) (fun y hy => hx y (by simp [hy]))
theorem heldIntSS_ev (l : List (List Int)) (a : Int) (h0 : 0 ≤ a) (ha : a + n2 l ≤ 1000000000000000) (hl : n2 l ≤ 1048576) : Ev (fun k => laws_heldIntSS.f k (mkSS l a).2 a) (mkSS l a).1 := by
  have h1 := szSum_bound List.length l (by simpa only [n2] using hl)
  exact heldIntSS_loop l [] a h0 (by simp only [n2] at ha; omega) (by simp; omega) h1.2
theorem markIntSS_ev (l : List (List Int)) (a : Int) : laws_markIntSS.f l a = some (mkSS l a) := rfl
theorem szState_cases (f0 : List Bool) (f1 : Bool) (a : Int) (h0 : 0 ≤ a) (ha : a ≤ 1048576) (g0 : goodBoolS f0) : ∃ t, laws_szState.f f0 f1 a = some t ∧ (t < 0 ∨ (0 ≤ t ∧ t + (List.length f0 : Int) ≤ a)) := by
  unfold laws_szState.f
  obtain ⟨t0, e0, hc⟩ := szBoolS_cases f0 a h0 ha g0
  rcases hc with hc | ⟨b0, c0⟩
  · exact ⟨-1, by simp [e0, hc], .inl (by omega)⟩
  exact ⟨t0, by simp [e0, show ¬ t0 < 0 by omega], .inr ⟨b0, by omega⟩⟩
theorem toState_ev (f0 : List Bool) (f1 : Bool) (h0 : List.length f0 ≤ 1048576) : Ev (fun k => laws_toState.f k f0 f1) (f0, f1) := Ev.bind (toBoolS_ev f0 h0) (Ev.now _)
theorem eqState_ev (f0 : List Bool) (f1 : Bool) (s0 : List Bool) (s1 : Bool) (h0 : List.length f0 ≤ 1048576) : Ev (fun k => laws_eqState.f k f0 f1 s0 s1) (decide ((f0, f1) = (s0, s1))) := by
  obtain ⟨K0, e0⟩ := eqBoolS_ev f0 s0 h0
  refine ⟨K0, fun k hk => ?_⟩
  unfold laws_eqState.f
  simp only [e0 k (by omega), Option.bind_some]
  by_cases q0 : f0 = s0 <;> try simp only [q0, decide_true, decide_false, if_true, if_false, Bool.false_eq_true, beq_self_eq_true]
  by_cases q1 : f1 = s1 <;> try simp only [q1, decide_true, decide_false, if_true, if_false, Bool.false_eq_true, beq_self_eq_true]
  all_goals simp_all
theorem markState_ev (f0 : List Bool) (f1 : Bool) (a : Int) (h0 : List.length f0 ≤ 1048576) : Ev (fun k => laws_markState.f k f0 f1 a) ((mkB f0 (a)).1, (mkB f0 (a)).2) := Ev.bind (markBoolS_ev f0 (a) h0) (Ev.now _)
theorem toCompany_ev (f0 : Int) (f1 : Int)  : laws_toCompany.f f0 f1 = some (f0, f1) := rfl
end Go.Proofs.Ytibdeohiimjocaa.Pure

namespace Go.Proofs.Ytibdeohiimjocaa.Pure
open Go.RowKit Go.Proofs.Ytibdeohiimjocaa.C11 Go.Proofs.Ytibdeohiimjocaa.H Go.Proofs.YtibdeohiimjocaaW.PrintWords Go.Proofs.YtibdeohiimjocaaW.PrintLast Go.Proofs.YtibdeohiimjocaaW.PrintMore
set_option linter.unusedVariables false
set_option linter.unusedSimpArgs false
end Go.Proofs.Ytibdeohiimjocaa.Pure

namespace Go.Proofs.Ytibdeohiimjocaa.Pure
open Go.RowKit Go.Proofs.Ytibdeohiimjocaa.C11 Go.Proofs.Ytibdeohiimjocaa.H Go.Proofs.YtibdeohiimjocaaW.PrintWords Go.Proofs.YtibdeohiimjocaaW.PrintLast Go.Proofs.YtibdeohiimjocaaW.PrintMore
set_option linter.unusedVariables false
set_option linter.unusedSimpArgs false
end Go.Proofs.Ytibdeohiimjocaa.Pure

namespace Go.Proofs.Ytibdeohiimjocaa.Pure
open Go.RowKit Go.Proofs.Ytibdeohiimjocaa.C11 Go.Proofs.Ytibdeohiimjocaa.H Go.Proofs.YtibdeohiimjocaaW.PrintWords Go.Proofs.YtibdeohiimjocaaW.PrintLast Go.Proofs.YtibdeohiimjocaaW.PrintMore
set_option linter.unusedVariables false
set_option linter.unusedSimpArgs false
def mv (v : Bool) : List Int → List Bool → List Bool
  | [], o => o
  | x :: r, o => mv v r (o.set x.toNat v)
end Go.Proofs.Ytibdeohiimjocaa.Pure

namespace Go.Proofs.Ytibdeohiimjocaa.Pure
open Go.RowKit Go.Proofs.Ytibdeohiimjocaa.C11 Go.Proofs.Ytibdeohiimjocaa.H Go.Proofs.YtibdeohiimjocaaW.PrintWords Go.Proofs.YtibdeohiimjocaaW.PrintLast Go.Proofs.YtibdeohiimjocaaW.PrintMore
set_option linter.unusedVariables false
set_option linter.unusedSimpArgs false
end Go.Proofs.Ytibdeohiimjocaa.Pure

namespace Go.Proofs.Ytibdeohiimjocaa.Pure
open Go.RowKit Go.Proofs.Ytibdeohiimjocaa.C11 Go.Proofs.Ytibdeohiimjocaa.H Go.Proofs.YtibdeohiimjocaaW.PrintWords Go.Proofs.YtibdeohiimjocaaW.PrintLast Go.Proofs.YtibdeohiimjocaaW.PrintMore
set_option linter.unusedVariables false
set_option linter.unusedSimpArgs false
theorem ev_up {α : Type} {f : Nat → Option α} (hm : ∀ k, LeO (f k) (f (k + 1))) {K : Nat} {r : α} (h : f K = some r) : Ev f r := by
  refine ⟨K, fun k hk => ?_⟩
  induction k with
  | zero => rw [show K = 0 by omega] at h; exact h
  | succ k ih =>
    by_cases e : K = k + 1
    · rw [← e]; exact h
    · exact hm k r (ih (by omega))
theorem map_some {α β : Type} {o : Option α} {f : α → β} {b : β} (h : o.map f = some b) : ∃ a, o = some a ∧ f a = b := by
  cases o with
  | none => cases h
  | some a => exact ⟨a, rfl, Option.some.inj h⟩
theorem cases4 {a : Int} (h0 : 1 ≤ a) (h1 : a ≤ 4) : a = 1 ∨ a = 2 ∨ a = 3 ∨ a = 4 := by omega
def goodU (cn m : Int) : Bool := inB 1 4 cn && inB 1 4 m
theorem goodU_in {cn m : Int} (h : goodU cn m = true) : (1 ≤ cn ∧ cn ≤ 4) ∧ 1 ≤ m ∧ m ≤ 4 := by
  unfold goodU inB at h
  simp only [Bool.and_eq_true, decide_eq_true_eq] at h
  exact h
theorem cuGood_eq (cn m : Int) : spec_cuGood.f cn m = some (goodU cn m) := by
  unfold spec_cuGood.f spec_l1In.f goodU inB
  by_cases h1 : 1 ≤ cn <;> by_cases h2 : cn ≤ 4 <;> by_cases h3 : 1 ≤ m <;> by_cases h4 : m ≤ 4 <;> simp [h1, h2, h3, h4]
theorem isCompany_eq (cn m : Int) : impl_IsCompany.f cn m = some (goodU cn m) := by
  unfold impl_IsCompany.f impl_in.f goodU inB
  by_cases h1 : 1 ≤ cn <;> by_cases h2 : cn ≤ 4 <;> by_cases h3 : 1 ≤ m <;> by_cases h4 : m ≤ 4 <;> simp [h1, h2, h3, h4]
end Go.Proofs.Ytibdeohiimjocaa.Pure

namespace Go.Proofs.Ytibdeohiimjocaa.Pure
open Go.RowKit Go.Proofs.Ytibdeohiimjocaa.C11 Go.Proofs.Ytibdeohiimjocaa.H Go.Proofs.YtibdeohiimjocaaW.PrintWords Go.Proofs.YtibdeohiimjocaaW.PrintLast Go.Proofs.YtibdeohiimjocaaW.PrintMore
set_option linter.unusedVariables false
set_option linter.unusedSimpArgs false
def allB : Nat → List (List Bool)
  | 0 => [[]]
  | n + 1 => (allB n).map (List.cons false) ++ (allB n).map (List.cons true)
theorem allB_mem : ∀ (n : Nat) (l : List Bool), l.length = n → l ∈ allB n := by
  intro n
  induction n with
  | zero =>
    intro l h
    rw [List.length_eq_zero_iff.1 h]
    exact List.mem_singleton.2 rfl
  | succ n ih =>
    intro l h
    cases l with
    | nil => cases h
    | cons b l =>
      have := ih l (by simpa using h)
      simp only [allB, List.mem_append, List.mem_map]
      cases b with
      | false => exact .inl ⟨l, this, rfl⟩
      | true => exact .inr ⟨l, this, rfl⟩
end Go.Proofs.Ytibdeohiimjocaa.Pure

namespace Go.Proofs.Ytibdeohiimjocaa.Pure
open Go.Proofs.Ytibdeohiimjocaa.Walk Go.RowKit Go.Proofs.Ytibdeohiimjocaa.C11 Go.Proofs.Ytibdeohiimjocaa.H Go.Proofs.YtibdeohiimjocaaW.PrintWords Go.Proofs.YtibdeohiimjocaaW.PrintLast Go.Proofs.YtibdeohiimjocaaW.PrintMore
set_option linter.unusedVariables false
set_option linter.unusedSimpArgs false
def chkR (cn m : Int) (ov : List Bool) (tr : Bool) : Bool := match impl_RowsOf.f 100000 cn m ov tr with
  | none => false
  | some r => decide (spec_RowsOf.f 100000 cn m ov tr = some r) && decide (n2 r.1 ≤ 1048576)
theorem chkR_ok {cn m : Int} {ov : List Bool} {tr : Bool} (h : chkR cn m ov tr = true) : ∃ rr : List (List Int) × Bool, Ev (fun k => spec_RowsOf.f k cn m ov tr) rr ∧ Ev (fun k => impl_RowsOf.f k cn m ov tr) rr ∧ n2 rr.1 ≤ 1048576 := by
  unfold chkR at h
  cases hi : impl_RowsOf.f 100000 cn m ov tr with
  | none => rw [hi] at h; cases h
  | some r =>
    rw [hi] at h
    simp only [Bool.and_eq_true, decide_eq_true_eq] at h
    exact ⟨r, ev_up (f := fun k => spec_RowsOf.f k cn m ov tr) (fun k => spec_RowsOf.mono _ _ _ _ _) h.1, ev_up (f := fun k => impl_RowsOf.f k cn m ov tr) (fun k => impl_RowsOf.mono _ _ _ _ _) hi, h.2⟩
theorem chkR_all {cn m : Int} {n : Nat} (h : (allB n).all (fun ov => chkR cn m ov false && chkR cn m ov true) = true) (ov : List Bool) (tr : Bool) (hl : ov.length = n) : ∃ rr : List (List Int) × Bool, Ev (fun k => spec_RowsOf.f k cn m ov tr) rr ∧ Ev (fun k => impl_RowsOf.f k cn m ov tr) rr ∧ n2 rr.1 ≤ 1048576 := by
  have := List.all_eq_true.1 h ov (allB_mem n ov hl)
  rw [Bool.and_eq_true] at this
  cases tr with
  | false => exact chkR_ok this.1
  | true => exact chkR_ok this.2
set_option maxRecDepth 100000 in
theorem rwT11 : (allB 2).all (fun ov => chkR 1 1 ov false && chkR 1 1 ov true) = true := by decide +kernel
set_option maxRecDepth 100000 in
theorem rwT12 : (allB 2).all (fun ov => chkR 1 2 ov false && chkR 1 2 ov true) = true := by decide +kernel
set_option maxRecDepth 100000 in
theorem rwT13 : (allB 2).all (fun ov => chkR 1 3 ov false && chkR 1 3 ov true) = true := by decide +kernel
set_option maxRecDepth 100000 in
theorem rwT14 : (allB 2).all (fun ov => chkR 1 4 ov false && chkR 1 4 ov true) = true := by decide +kernel
set_option maxRecDepth 100000 in
theorem rwT21 : (allB 4).all (fun ov => chkR 2 1 ov false && chkR 2 1 ov true) = true := by decide +kernel
set_option maxRecDepth 100000 in
theorem rwT22 : (allB 4).all (fun ov => chkR 2 2 ov false && chkR 2 2 ov true) = true := by decide +kernel
set_option maxRecDepth 100000 in
theorem rwT23 : (allB 4).all (fun ov => chkR 2 3 ov false && chkR 2 3 ov true) = true := by decide +kernel
set_option maxRecDepth 100000 in
theorem rwT24 : (allB 4).all (fun ov => chkR 2 4 ov false && chkR 2 4 ov true) = true := by decide +kernel
set_option maxRecDepth 100000 in
theorem rwT31 : (allB 6).all (fun ov => chkR 3 1 ov false && chkR 3 1 ov true) = true := by decide +kernel
set_option maxRecDepth 100000 in
theorem rwT32 : (allB 6).all (fun ov => chkR 3 2 ov false && chkR 3 2 ov true) = true := by decide +kernel
set_option maxRecDepth 100000 in
theorem rwT33 : (allB 6).all (fun ov => chkR 3 3 ov false && chkR 3 3 ov true) = true := by decide +kernel
set_option maxRecDepth 100000 in
theorem rwT34 : (allB 6).all (fun ov => chkR 3 4 ov false && chkR 3 4 ov true) = true := by decide +kernel
set_option maxRecDepth 100000 in
theorem rwT41 : (allB 8).all (fun ov => chkR 4 1 ov false && chkR 4 1 ov true) = true := by decide +kernel
set_option maxRecDepth 100000 in
theorem rwT42 : (allB 8).all (fun ov => chkR 4 2 ov false && chkR 4 2 ov true) = true := by decide +kernel
set_option maxRecDepth 100000 in
theorem rwT43 : (allB 8).all (fun ov => chkR 4 3 ov false && chkR 4 3 ov true) = true := by decide +kernel
set_option maxRecDepth 100000 in
theorem rwT44 : (allB 8).all (fun ov => chkR 4 4 ov false && chkR 4 4 ov true) = true := by decide +kernel
theorem FnExactRowsOf_both (cn m : Int) (ov : List Bool) (tr : Bool) (hs : ov.length ≤ 1048576) : ∃ rr : List (List Int) × Bool, Ev (fun k => spec_RowsOf.f k cn m ov tr) rr ∧ Ev (fun k => impl_RowsOf.f k cn m ov tr) rr ∧ n2 rr.1 ≤ 1048576 := by
  by_cases hg : goodU cn m = true ∧ (ov.length : Int) = wrap64 (2 * cn)
  · obtain ⟨hg, hl⟩ := hg
    obtain ⟨⟨h0, h1⟩, h2, h3⟩ := goodU_in hg
    rw [wr_id (by omega) (by omega)] at hl
    rcases cases4 h0 h1 with rfl | rfl | rfl | rfl <;> rcases cases4 h2 h3 with rfl | rfl | rfl | rfl
    · exact chkR_all rwT11 ov tr (by omega)
    · exact chkR_all rwT12 ov tr (by omega)
    · exact chkR_all rwT13 ov tr (by omega)
    · exact chkR_all rwT14 ov tr (by omega)
    · exact chkR_all rwT21 ov tr (by omega)
    · exact chkR_all rwT22 ov tr (by omega)
    · exact chkR_all rwT23 ov tr (by omega)
    · exact chkR_all rwT24 ov tr (by omega)
    · exact chkR_all rwT31 ov tr (by omega)
    · exact chkR_all rwT32 ov tr (by omega)
    · exact chkR_all rwT33 ov tr (by omega)
    · exact chkR_all rwT34 ov tr (by omega)
    · exact chkR_all rwT41 ov tr (by omega)
    · exact chkR_all rwT42 ov tr (by omega)
    · exact chkR_all rwT43 ov tr (by omega)
    · exact chkR_all rwT44 ov tr (by omega)
  · have e1 : Ev (fun k => spec_cuIs.f k cn m ov tr) false := by
      unfold spec_cuIs.f
      rw [cuGood_eq]
      cases hg' : goodU cn m with
      | false => simp only [Option.bind_some, Bool.false_eq_true, if_false]; exact Ev.now _
      | true =>
        simp only [Option.bind_some, if_true, if_neg (show ¬ (ov.length : Int) = wrap64 (2 * cn) from fun q => hg ⟨hg', q⟩)]
        exact Ev.now _
    have e2 : Ev (fun k => impl_Company_hasState.f k cn m ov tr) false := by
      unfold impl_Company_hasState.f impl_isStateOf.f
      rw [isCompany_eq]
      cases hg' : goodU cn m with
      | false => simp only [Option.bind_some, Bool.false_eq_true, if_false]; exact Ev.now _
      | true =>
        simp only [Option.bind_some, if_true, if_neg (show ¬ (ov.length : Int) = wrap64 (2 * cn) from fun q => hg ⟨hg', q⟩)]
        exact Ev.now _
    refine ⟨([], false), ?_, ?_, by decide⟩
    · unfold spec_RowsOf.f
      refine Ev.bind e1 ?_
      simp only [Bool.false_eq_true, if_false]
      refine Ev.step (fun k => spec_RowsOf.j0.eq_2 ..) ?_
      simp only [if_true]
      exact Ev.now _
    · unfold impl_RowsOf.f
      refine Ev.bind e2 ?_
      simp only [Bool.false_eq_true, if_false]
      exact Ev.now _
theorem FnExactRowsOf_all (a0_0 : Int) (a0_1 : Int) (A1_0 : Option Addr) (c1_0 : Nat) (l1_0 : List Bool) (a1_1 : Bool) (w : World) (hr1_0 : Kd.C Kd.bool w A1_0 l1_0.length l1_0) (hc1_0 : l1_0.length ≤ c1_0) (g0_0 : goodI a0_0) (g0_1 : goodI a0_1) (g1_0 : goodL (fun _ => True) l1_0) :
    Calls Try.prog 11 #[.agg #[.int .i64 a0_0, .int .i64 a0_1], .agg #[.slice A1_0 l1_0.length c1_0, .bool a1_1]] w fun e w' => e = .returned (.bool true) ∧ Below w.heap.size w w' := by
  obtain ⟨u1, hu1, hc⟩ := szState_cases l1_0 a1_1 1048576 (by omega) (by omega) g1_0.1
  replace hu1 := ev_some hu1
  rcases hc with hc | ⟨b1, d1⟩
  · obtain ⟨Kx, fx⟩ := hu1
    exact FnExactRowsOf_short1 _ _ _ _ _ _ w hr1_0 hc1_0  _ (fx _ (Nat.le_refl _)) hc
  have nu1 : ¬ u1 < 0 := by omega
  have z1_0 : List.length l1_0 ≤ 1048576 := by omega
  have et0 := ev_some (toCompany_ev a0_0 a0_1 )
  have et1 := toState_ev l1_0 a1_1 z1_0
  obtain ⟨rr, es, ei, hsm⟩ := FnExactRowsOf_both a0_0 a0_1 l1_0 a1_1 z1_0
  obtain ⟨r0, r1⟩ := rr
  dsimp only at hsm
  have s0 := hsm
  have eq0 : Ev (fun k => laws_eqIntSS.f k r0 r0) true := ev_eq (eqIntSS_ev r0 r0 s0) (decide_eq_true rfl)
  have ea1 : Ev (fun k => laws_eqState.f k l1_0 a1_1 l1_0 a1_1) true := ev_eq (eqState_ev l1_0 a1_1 l1_0 a1_1 z1_0) (decide_eq_true rfl)
  have ema1 := markState_ev l1_0 a1_1 (1) z1_0
  have bma1_0 := mkB_bound l1_0 (1) (by omega) (by omega)
  have na1_0 : ¬ (mkB l1_0 (1)).1 < 0 := by omega
  have emr0 := ev_some (markIntSS_ev r0 (1))
  have bmr0 := mkSS_bound r0 (1) (by omega) (by omega)
  have nr0 : ¬ (mkSS r0 (1)).1 < 0 := by omega
  have eh0 := heldIntSS_ev r0 (1) (by omega) (by omega) s0
  clear bma1_0 bmr0
  obtain ⟨Khu1, fhu1⟩ := hu1
  obtain ⟨Ket0, fet0⟩ := et0
  obtain ⟨Ket1, fet1⟩ := et1
  obtain ⟨Kes, fes⟩ := es
  obtain ⟨Kei, fei⟩ := ei
  obtain ⟨Keq0, feq0⟩ := eq0
  obtain ⟨Kea1, fea1⟩ := ea1
  obtain ⟨Kema1, fema1⟩ := ema1
  obtain ⟨Kemr0, femr0⟩ := emr0
  obtain ⟨Keh0, feh0⟩ := eh0
  exact FnExactRowsOf_walk _ _ _ _ _ _ _ _ _ _ _ _ _ Ket1 Kes Kei Keq0 Kea1 Kema1 Keh0 w hr1_0 hc1_0  (fhu1 _ (Nat.le_refl _)) nu1 (fet0 _ (Nat.le_refl _)) (fet1 _ (Nat.le_refl _)) (fes _ (Nat.le_refl _)) (fei _ (Nat.le_refl _)) (feq0 _ (Nat.le_refl _)) (fea1 _ (Nat.le_refl _)) (fema1 _ (Nat.le_refl _)) na1_0 (femr0 _ (Nat.le_refl _)) (feh0 _ (Nat.le_refl _)) nr0
end Go.Proofs.Ytibdeohiimjocaa.Pure
