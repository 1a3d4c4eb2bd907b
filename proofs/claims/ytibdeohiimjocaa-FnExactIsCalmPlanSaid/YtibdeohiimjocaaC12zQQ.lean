import Derived.Test.YtibdeohiimjocaaC12zx0
import Derived.Test.YtibdeohiimjocaaC12zH0
import Derived.Test.YtibdeohiimjocaaC12zH1
import Derived.Test.YtibdeohiimjocaaC12zx1
import Derived.Test.YtibdeohiimjocaaC12zx4
import Derived.Test.YtibdeohiimjocaaC12zx5
import Derived.Test.YtibdeohiimjocaaC12zx6
import Derived.Test.YtibdeohiimjocaaC12zx2
import Derived.Test.YtibdeohiimjocaaC12zx7
import Derived.Test.YtibdeohiimjocaaC12zx8
namespace Go.Proofs.Ytibdeohiimjocaa.Pure
open Go.RowKit Go.Proofs.Ytibdeohiimjocaa.C12 Go.Proofs.Ytibdeohiimjocaa.H Go.Proofs.YtibdeohiimjocaaW.PrintWords Go.Proofs.YtibdeohiimjocaaW.PrintLast Go.Proofs.YtibdeohiimjocaaW.PrintMore
set_option linter.unusedVariables false
set_option linter.unusedSimpArgs false
def szSum {α : Type} (f : α → Nat) : List α → Nat
  | [] => 0
  | x :: l => f x + szSum f l
def n2 (l : List (List Int)) : Nat := l.length + szSum List.length l
theorem szSum_bound {α : Type} (f : α → Nat) (l : List α) {B : Nat} (h : l.length + szSum f l ≤ B) : l.length ≤ B ∧ ∀ x ∈ l, f x ≤ B := by
  refine ⟨by omega, ?_⟩
  have h2 : szSum f l ≤ B := by omega
  clear h
  induction l with
  | nil => intro x hx; cases hx
  | cons y l ih =>
    simp only [szSum] at h2
    intro x hx
    rcases List.mem_cons.1 hx with rfl | hx
    · omega
    · exact ih (by omega) x hx
end Go.Proofs.Ytibdeohiimjocaa.Pure

namespace Go.Proofs.Ytibdeohiimjocaa.Pure
open Go.RowKit Go.Proofs.Ytibdeohiimjocaa.C12 Go.Proofs.Ytibdeohiimjocaa.H Go.Proofs.YtibdeohiimjocaaW.PrintWords Go.Proofs.YtibdeohiimjocaaW.PrintLast Go.Proofs.YtibdeohiimjocaaW.PrintMore
set_option linter.unusedVariables false
set_option linter.unusedSimpArgs false
def goodIntS (l : List Int) : Prop := l.length ≤ 9223372036854775807
theorem szIntS_cases (l : List Int) (a : Int) (h0 : 0 ≤ a) (ha : a ≤ 1048576) (hg : goodIntS l) : ∃ t, laws_szIntS.f l a = some t ∧ (t < 0 ∨ (0 ≤ t ∧ t + (l.length : Int) ≤ a)) := by
  have hl : l.length ≤ 9223372036854775807 := hg
  unfold laws_szIntS.f
  rw [wr_id (by omega) (by omega)]
  by_cases h : a - (l.length : Int) < 0
  · exact ⟨-1, by rw [if_pos h], .inl (by omega)⟩
  · exact ⟨_, by rw [if_neg h], .inr ⟨by omega, by omega⟩⟩
theorem toIntS_loop (x0 : List Int) : ∀ (r pre suf : List Int), x0 = pre ++ r → suf.length = r.length → x0.length ≤ 9223372036854775807 → Ev (fun k => laws_toIntS.l0 k x0 (pre ++ suf) (pre.length : Int)) x0 := by
  intro r
  induction r with
  | nil =>
    intro pre suf e hs hl
    obtain rfl : suf = [] := List.eq_nil_of_length_eq_zero hs
    subst e
    refine Ev.step (f := fun _ => some _) (fun k => ?_) (Ev.now _)
    simp only [laws_toIntS.l0]
    rw [if_neg (nlt_end pre)]
  | cons x r ih =>
    intro pre suf e hs hl
    match suf, hs with
    | y :: suf, hs =>
      subst e
      refine Ev.step (fun k => ?_) (ev_eq (ih (pre ++ [x]) suf (by simp) (by simpa using hs) hl) rfl)
      simp only [laws_toIntS.l0]
      rw [if_pos (lt_mid pre x r), if_pos (zle _), if_pos (lt_mid pre y suf), rd_mid, set_mid, wr_mid pre x r hl, app_mid pre x suf]
theorem toIntS_ev (l : List Int) (hl : l.length ≤ 1048576) : Ev (fun k => laws_toIntS.f k l) l := by
  unfold laws_toIntS.f
  simp only [if_pos (zle l.length), if_pos (show ((l.length : Int)).toNat ≤ 35184372088832 by omega)]
  exact toIntS_loop l l [] _ rfl (by simp) (by omega)
theorem eqIntS_loop : ∀ (r s pre qre : List Int), pre.length = qre.length → r.length = s.length → (pre ++ r).length ≤ 9223372036854775807 → Ev (fun k => laws_eqIntS.l0 k (pre ++ r) (qre ++ s) (pre.length : Int)) (decide (r = s)) := by
  intro r
  induction r with
  | nil =>
    intro s pre qre hp hs hl
    obtain rfl : s = [] := List.eq_nil_of_length_eq_zero hs.symm
    refine Ev.step (f := fun _ => some _) (fun k => ?_) (Ev.now _)
    simp only [laws_eqIntS.l0]
    rw [if_neg (nlt_end pre)]
    rfl
  | cons x r ih =>
    intro s pre qre hp hs hl
    match s, hs with
    | y :: s, hs =>
      by_cases e : x = y
      · subst e
        refine Ev.step (fun k => ?_) (ev_eq (ih s (pre ++ [x]) (qre ++ [x]) (by simp [hp]) (by simpa using hs) (by simpa using hl)) (by simp))
        simp only [laws_eqIntS.l0]
        rw [if_pos (lt_mid pre x r), if_pos (zle _), if_pos (by rw [hp]; exact lt_mid qre x s), rd_mid, hp, rd_mid, if_pos rfl, ← hp, wr_mid pre x r hl, app_mid pre x r, app_mid qre x s]
      · refine Ev.step (f := fun _ => some _) (fun k => ?_) (Ev.now _)
        simp only [laws_eqIntS.l0]
        rw [if_pos (lt_mid pre x r), if_pos (zle _), if_pos (by rw [hp]; exact lt_mid qre y s), rd_mid, hp, rd_mid, if_neg e]
        simp [e]
theorem eqIntS_ev (l s : List Int) (hl : l.length ≤ 1048576) : Ev (fun k => laws_eqIntS.f k l s) (decide (l = s)) := by
  unfold laws_eqIntS.f
  by_cases h : l.length = s.length
  · simp only [if_pos (show (l.length : Int) = (s.length : Int) by omega)]
    exact eqIntS_loop l s [] [] rfl h (by simp; omega)
  · simp only [if_neg (show ¬ (l.length : Int) = (s.length : Int) by omega)]
    refine ev_eq (Ev.now _) ?_
    have : l ≠ s := fun e => h (by rw [e])
    simp [this]
theorem rd_L2_mid (pre : List (List Int)) (x : List Int) (r : List (List Int)) : rd_L1 (pre ++ x :: r) (pre.length : Int) = x := by simp [rd_L1]
theorem szIntSS_loop : ∀ (r pre : List (List Int)) (a : Int), 0 ≤ a → a ≤ 1048576 → (pre ++ r).length ≤ 9223372036854775807 → (∀ x ∈ r, goodIntS x) → ∃ t, Ev (fun k => laws_szIntSS.l0 k (pre ++ r) a (pre.length : Int)) t ∧ (t < 0 ∨ (0 ≤ t ∧ t + (szSum List.length r : Int) ≤ a)) := by
  intro r
  induction r with
  | nil =>
    intro pre a h0 ha hl hg
    refine ⟨a, ?_, .inr ⟨h0, by simp [szSum]⟩⟩
    refine Ev.step (f := fun _ => some a) (fun k => ?_) (Ev.now _)
    simp only [laws_szIntSS.l0]
    rw [if_neg (nlt_end pre)]
  | cons x r ih =>
    intro pre a h0 ha hl hg
    obtain ⟨t, ht, hc⟩ := szIntS_cases x a h0 ha (hg x (by simp))
    have hE : Ev (fun k => laws_szIntS.f x a) t := ev_some ht
    rcases hc with hc | ⟨hc0, hc1⟩
    · refine ⟨-1, Ev.step (f := fun k => (laws_szIntS.f x a).bind fun t => if t < 0 then some (-1) else laws_szIntSS.l0 k (pre ++ x :: r) t (wrap64 ((pre.length : Int) + 1))) (fun k => ?_) (Ev.bind hE ?_), .inl (by omega)⟩
      · simp only [laws_szIntSS.l0]
        rw [if_pos (lt_mid pre x r), if_pos (zle _), rd_L2_mid]
      · simp only [if_pos hc]
        exact Ev.now _
    · obtain ⟨t2, ht2, h2⟩ := ih (pre ++ [x]) t hc0 (by omega) (by simpa using hl) (fun y hy => hg y (by simp [hy]))
      refine ⟨t2, Ev.step (f := fun k => (laws_szIntS.f x a).bind fun t => if t < 0 then some (-1) else laws_szIntSS.l0 k (pre ++ x :: r) t (wrap64 ((pre.length : Int) + 1))) (fun k => ?_) (Ev.bind hE ?_), ?_⟩
      · simp only [laws_szIntSS.l0]
        rw [if_pos (lt_mid pre x r), if_pos (zle _), rd_L2_mid]
      · simp only [if_neg (show ¬ t < 0 by omega)]
        rw [wr_mid pre x r hl, app_mid pre x r]
        exact ht2
      · rcases h2 with h2 | ⟨h2, h3⟩
        · exact .inl h2
        · exact .inr ⟨h2, by simp only [szSum]; omega⟩
def goodIntSS (l : List (List Int)) : Prop := l.length ≤ 9223372036854775807 ∧ ∀ x ∈ l, goodIntS x
theorem szIntSS_cases (l : List (List Int)) (a : Int) (h0 : 0 ≤ a) (ha : a ≤ 1048576) (hg : goodIntSS l) : ∃ t, Ev (fun k => laws_szIntSS.f k l a) t ∧ (t < 0 ∨ (0 ≤ t ∧ t + (n2 l : Int) ≤ a)) := by
  have hl := hg.1
  unfold laws_szIntSS.f
  rw [wr_id (by omega) (by omega)]
  by_cases h : a - (l.length : Int) < 0
  · exact ⟨-1, by simp only [if_pos h]; exact Ev.now _, .inl (by omega)⟩
  · obtain ⟨t, ht, hc⟩ := szIntSS_loop l [] (a - l.length) (by omega) (by omega) hl hg.2
    refine ⟨t, by simp only [if_neg h]; exact ht, ?_⟩
    rcases hc with hc | ⟨h1, h2⟩
    · exact .inl hc
    · exact .inr ⟨h1, by simp only [n2]; omega⟩
theorem toIntSS_loop (x0 : List (List Int)) (hx : ∀ x ∈ x0, List.length x ≤ 1048576) : ∀ (r pre suf : List (List Int)), x0 = pre ++ r → suf.length = r.length → x0.length ≤ 9223372036854775807 → Ev (fun k => laws_toIntSS.l0 k x0 (pre ++ suf) (pre.length : Int)) x0 := by
  intro r
  induction r with
  | nil =>
    intro pre suf e hs hl
    obtain rfl : suf = [] := List.eq_nil_of_length_eq_zero hs
    subst e
    refine Ev.step (f := fun _ => some _) (fun k => ?_) (Ev.now _)
    simp only [laws_toIntSS.l0]
    rw [if_neg (nlt_end pre)]
  | cons x r ih =>
    intro pre suf e hs hl
    match suf, hs with
    | y :: suf, hs =>
      subst e
      refine Ev.step (f := fun k => (laws_toIntS.f k x).bind fun t => if (pre.length : Int) < ((pre ++ y :: suf).length : Int) then laws_toIntSS.l0 k (pre ++ x :: r) ((pre ++ y :: suf).set ((pre.length : Int)).toNat t) (wrap64 ((pre.length : Int) + 1)) else none) (fun k => ?_) (Ev.bind (toIntS_ev x (hx x (by simp))) ?_)
      · simp only [laws_toIntSS.l0]
        rw [if_pos (lt_mid pre x r), if_pos (zle _), rd_L2_mid]
      · simp only [if_pos (lt_mid pre y suf)]
        rw [set_mid, wr_mid pre x r hl, app_mid pre x suf]
        exact ih (pre ++ [x]) suf (by simp) (by simpa using hs) hl
theorem toIntSS_ev (l : List (List Int)) (hl : n2 l ≤ 1048576) : Ev (fun k => laws_toIntSS.f k l) l := by
  have h1 := szSum_bound List.length l (by simpa only [n2] using hl)
  unfold laws_toIntSS.f
  simp only [if_pos (zle l.length), if_pos (show ((l.length : Int)).toNat ≤ 11728124029610 by omega)]
  exact toIntSS_loop l h1.2 l [] _ rfl (by simp) (by omega)
theorem eqIntSS_loop : ∀ (r s pre qre : List (List Int)), pre.length = qre.length → r.length = s.length → (pre ++ r).length ≤ 9223372036854775807 → (∀ x ∈ r, List.length x ≤ 1048576) → Ev (fun k => laws_eqIntSS.l0 k (pre ++ r) (qre ++ s) (pre.length : Int)) (decide (r = s)) := by
  intro r
  induction r with
  | nil =>
    intro s pre qre hp hs hl hx
    obtain rfl : s = [] := List.eq_nil_of_length_eq_zero hs.symm
    refine Ev.step (f := fun _ => some _) (fun k => ?_) (Ev.now _)
    simp only [laws_eqIntSS.l0]
    rw [if_neg (nlt_end pre)]
    rfl
  | cons x r ih =>
    intro s pre qre hp hs hl hx
    match s, hs with
    | y :: s, hs =>
      refine Ev.step (f := fun k => (laws_eqIntS.f k x y).bind fun t => if t = true then laws_eqIntSS.l0 k (pre ++ x :: r) (qre ++ y :: s) (wrap64 ((pre.length : Int) + 1)) else some false) (fun k => ?_) (Ev.bind (eqIntS_ev x y (hx x (by simp))) ?_)
      · simp only [laws_eqIntSS.l0]
        rw [if_pos (lt_mid pre x r), if_pos (zle _), if_pos (by rw [hp]; exact lt_mid qre y s), rd_L2_mid, hp, rd_L2_mid, ← hp]
      · by_cases e : x = y
        · subst e
          simp only [decide_true, if_true]
          rw [wr_mid pre x r hl, app_mid pre x r, app_mid qre x s]
          exact ev_eq (ih s (pre ++ [x]) (qre ++ [x]) (by simp [hp]) (by simpa using hs) (by simpa using hl) (fun y hy => hx y (by simp [hy]))) (by simp)
        · simp only [decide_eq_false e, if_neg Bool.false_ne_true]
          exact ev_eq (Ev.now _) (by simp [e])
theorem eqIntSS_ev (l s : List (List Int)) (hl : n2 l ≤ 1048576) : Ev (fun k => laws_eqIntSS.f k l s) (decide (l = s)) := by
  have h1 := szSum_bound List.length l (by simpa only [n2] using hl)
  unfold laws_eqIntSS.f
  by_cases h : l.length = s.length
  · simp only [if_pos (show (l.length : Int) = (s.length : Int) by omega)]
    exact eqIntSS_loop l s [] [] rfl h (by simp; omega) h1.2
  · simp only [if_neg (show ¬ (l.length : Int) = (s.length : Int) by omega)]
    refine ev_eq (Ev.now _) ?_
    have : l ≠ s := fun e => h (by rw [e])
    simp [this]
theorem good2 {l : List (List Int)} (h : goodL (goodL goodI) l) : goodIntSS l := ⟨h.1, fun x hx => (h.2 x hx).1⟩
theorem toCompany_ev (f0 : Int) (f1 : Int)  : laws_toCompany.f f0 f1 = some (f0, f1) := rfl
end Go.Proofs.Ytibdeohiimjocaa.Pure

namespace Go.Proofs.Ytibdeohiimjocaa.Pure
open Go.RowKit Go.Proofs.Ytibdeohiimjocaa.C12 Go.Proofs.Ytibdeohiimjocaa.H Go.Proofs.YtibdeohiimjocaaW.PrintWords Go.Proofs.YtibdeohiimjocaaW.PrintLast Go.Proofs.YtibdeohiimjocaaW.PrintMore
set_option linter.unusedVariables false
set_option linter.unusedSimpArgs false
theorem l1In_eq (a b c : Int) : spec_l1In.f a b c = some (inB b c a) := by
  unfold spec_l1In.f inB
  by_cases h : b ≤ a <;> simp [h]
theorem areIn_eq (l : List Int) (a b c d : Int) : impl_areIn.f l a b c d = some (inB c d (l.length : Int) && l.all (inB a b)) := rfl
end Go.Proofs.Ytibdeohiimjocaa.Pure

namespace Go.Proofs.Ytibdeohiimjocaa.Pure
open Go.RowKit Go.Proofs.Ytibdeohiimjocaa.C12 Go.Proofs.Ytibdeohiimjocaa.H Go.Proofs.YtibdeohiimjocaaW.PrintWords Go.Proofs.YtibdeohiimjocaaW.PrintLast Go.Proofs.YtibdeohiimjocaaW.PrintMore
set_option linter.unusedVariables false
set_option linter.unusedSimpArgs false
def risF (p : Int) : List Int → Bool
  | [] => true
  | y :: r => decide (p < y) && risF y r
def risP : List Int → Bool
  | [] => true
  | x :: r => risF x r
theorem rd_mid1 (pre : List Int) (p y : Int) (r : List Int) : rd (pre ++ p :: y :: r) ((pre.length : Int) + 1) = y := by
  have h : ((pre.length : Int) + 1).toNat = pre.length + 1 := by omega
  simp [rd, h]
theorem lt_mid1 (pre : List Int) (p y : Int) (r : List Int) : (pre.length : Int) + 1 < ((pre ++ p :: y :: r).length : Int) := by simp; omega
theorem nlt_end1 (pre : List Int) (p : Int) : ¬ (pre.length : Int) + 1 < ((pre ++ p :: ([] : List Int)).length : Int) := by simp
theorem wr_mid1 (pre : List Int) (p y : Int) (r : List Int) (h : (pre ++ p :: y :: r).length ≤ 9223372036854775807) : wrap64 ((pre.length : Int) + 1 + 1) = ((pre ++ [p]).length : Int) + 1 := by
  simp only [List.length_append, List.length_cons] at h
  rw [wr_id (by omega) (by omega)]
  simp
theorem wr_pred (pre : List Int) (h : pre.length ≤ 9223372036854775806) : wrap64 ((pre.length : Int) + 1 - 1) = (pre.length : Int) := by
  rw [wr_id (by omega) (by omega)]
  omega
theorem rising_cat (pre : List Int) (p : Int) (r : List Int) : pre ++ p :: r = (pre ++ [p]) ++ r := by simp
theorem rises_loop : ∀ (r pre : List Int) (p : Int), (pre ++ p :: r).length ≤ 9223372036854775807 → Ev (fun k => impl_rises.l0 k (pre ++ p :: r) ((pre.length : Int) + 1)) (risF p r) := by
  intro r
  induction r with
  | nil =>
    intro pre p hl
    refine Ev.step (f := fun _ => some true) (fun k => ?_) (Ev.now _)
    simp only [impl_rises.l0]
    rw [if_neg (nlt_end1 pre p)]
  | cons y r ih =>
    intro pre p hl
    have hl' := hl
    simp only [List.length_append, List.length_cons] at hl'
    by_cases c : p < y
    · refine Ev.step (fun k => ?_) (ev_eq (ih (pre ++ [p]) y (by simpa using hl)) (by simp [risF, c]))
      simp only [impl_rises.l0]
      rw [if_pos (lt_mid1 pre p y r), if_pos (by omega), wr_pred pre (by omega), if_pos (zle _), if_pos (lt_mid pre p (y :: r)), rd_mid1, rd_mid, if_neg (by omega), wr_mid1 pre p y r hl, rising_cat pre p (y :: r)]
    · refine Ev.step (f := fun _ => some false) (fun k => ?_) (ev_eq (Ev.now _) (by simp [risF, c]))
      simp only [impl_rises.l0]
      rw [if_pos (lt_mid1 pre p y r), if_pos (by omega), wr_pred pre (by omega), if_pos (zle _), if_pos (lt_mid pre p (y :: r)), rd_mid1, rd_mid, if_pos (by omega)]
theorem rises_ev (l : List Int) (hl : l.length ≤ 9223372036854775807) : Ev (fun k => impl_rises.f k l) (risP l) := by
  cases l with
  | nil =>
    refine Ev.step (f := fun _ => some true) (fun k => ?_) (Ev.now _)
    simp [impl_rises.f, impl_rises.l0]
  | cons x r => exact rises_loop r [] x hl
theorem l1Rising_loop (lo hi : Int) : ∀ (r pre : List Int) (p : Int), (pre ++ p :: r).length ≤ 9223372036854775807 → Ev (fun k => spec_l1Rising.l0 k (pre ++ p :: r) lo hi (pre ++ p :: r) ((pre ++ p :: r).length : Int) ((pre.length : Int) + 1)) (r.all (inB lo hi) && risF p r) := by
  intro r
  induction r with
  | nil =>
    intro pre p hl
    refine Ev.step (f := fun _ => some true) (fun k => ?_) (Ev.now _)
    simp only [spec_l1Rising.l0]
    rw [if_neg (nlt_end1 pre p)]
  | cons y r ih =>
    intro pre p hl
    have hl' := hl
    simp only [List.length_append, List.length_cons] at hl'
    cases hy : inB lo hi y with
    | false =>
      refine Ev.step (f := fun _ => some false) (fun k => ?_) (ev_eq (Ev.now _) (by simp [hy]))
      simp only [spec_l1Rising.l0]
      rw [if_pos (lt_mid1 pre p y r), if_pos (by omega), if_pos (lt_mid1 pre p y r), rd_mid1, l1In_eq, hy, Option.bind_some, if_neg (by simp)]
    | true =>
      by_cases c : p < y
      · refine Ev.step (fun k => ?_) (ev_eq (ih (pre ++ [p]) y (by simpa using hl)) (by simp [risF, c, hy]))
        simp only [spec_l1Rising.l0]
        rw [if_pos (lt_mid1 pre p y r), if_pos (by omega), if_pos (lt_mid1 pre p y r), rd_mid1, l1In_eq, hy, Option.bind_some, if_pos rfl, if_pos (by omega), wr_pred pre (by omega), if_pos (zle _), if_pos (lt_mid pre p (y :: r)), rd_mid, if_neg (by omega), wr_mid1 pre p y r hl, rising_cat pre p (y :: r)]
      · refine Ev.step (f := fun _ => some false) (fun k => ?_) (ev_eq (Ev.now _) (by simp [risF, c]))
        simp only [spec_l1Rising.l0]
        rw [if_pos (lt_mid1 pre p y r), if_pos (by omega), if_pos (lt_mid1 pre p y r), rd_mid1, l1In_eq, hy, Option.bind_some, if_pos rfl, if_pos (by omega), wr_pred pre (by omega), if_pos (zle _), if_pos (lt_mid pre p (y :: r)), rd_mid, if_pos (by omega)]
theorem l1Rising_ev (l : List Int) (lo hi : Int) (hl : l.length ≤ 9223372036854775807) : Ev (fun k => spec_l1Rising.f k l lo hi) (l.all (inB lo hi) && risP l) := by
  cases l with
  | nil =>
    refine Ev.step (f := fun _ => some true) (fun k => ?_) (Ev.now _)
    simp [spec_l1Rising.f, spec_l1Rising.l0]
  | cons x r =>
    cases hx : inB lo hi x with
    | false =>
      refine Ev.step (f := fun _ => some false) (fun k => ?_) (ev_eq (Ev.now _) (by simp [hx]))
      simp only [spec_l1Rising.f, spec_l1Rising.l0]
      rw [if_pos (show (0 : Int) < ((x :: r).length : Int) by simp only [List.length_cons]; omega), if_pos (Int.le_refl _), if_pos (show (0 : Int) < ((x :: r).length : Int) by simp only [List.length_cons]; omega), show rd (x :: r) 0 = x from rfl, l1In_eq, hx, Option.bind_some, if_neg (by simp)]
    | true =>
      refine Ev.step (fun k => ?_) (ev_eq (l1Rising_loop lo hi r [] x hl) (by simp [hx, risP]))
      simp only [spec_l1Rising.f, spec_l1Rising.l0]
      rw [if_pos (show (0 : Int) < ((x :: r).length : Int) by simp only [List.length_cons]; omega), if_pos (Int.le_refl _), if_pos (show (0 : Int) < ((x :: r).length : Int) by simp only [List.length_cons]; omega), show rd (x :: r) 0 = x from rfl, l1In_eq, hx, Option.bind_some, if_pos rfl, if_neg (by omega), show wrap64 (0 + 1) = ((([] : List Int).length : Int) + 1) from wr_id (by omega) (by omega)]
      rfl
end Go.Proofs.Ytibdeohiimjocaa.Pure

namespace Go.Proofs.Ytibdeohiimjocaa.Pure
open Go.RowKit Go.Proofs.Ytibdeohiimjocaa.C12 Go.Proofs.Ytibdeohiimjocaa.H Go.Proofs.YtibdeohiimjocaaW.PrintWords Go.Proofs.YtibdeohiimjocaaW.PrintLast Go.Proofs.YtibdeohiimjocaaW.PrintMore
set_option linter.unusedVariables false
set_option linter.unusedSimpArgs false
def mv (v : Bool) : List Int → List Bool → List Bool
  | [], o => o
  | x :: r, o => mv v r (o.set x.toNat v)
theorem mv_len (v : Bool) (t : List Int) : ∀ o : List Bool, (mv v t o).length = o.length := by
  induction t with
  | nil => intro o; rfl
  | cons x r ih => intro o; simp only [mv]; rw [ih]; simp
end Go.Proofs.Ytibdeohiimjocaa.Pure

namespace Go.Proofs.Ytibdeohiimjocaa.Pure
open Go.RowKit Go.Proofs.Ytibdeohiimjocaa.C12 Go.Proofs.Ytibdeohiimjocaa.H Go.Proofs.YtibdeohiimjocaaW.PrintWords Go.Proofs.YtibdeohiimjocaaW.PrintLast Go.Proofs.YtibdeohiimjocaaW.PrintMore
set_option linter.unusedVariables false
set_option linter.unusedSimpArgs false
theorem ev_up {α : Type} {f : Nat → Option α} (hm : ∀ k, LeO (f k) (f (k + 1))) {K : Nat} {r : α} (h : f K = some r) : Ev f r := by
  refine ⟨K, fun k hk => ?_⟩
  induction k with
  | zero => rw [show K = 0 by omega] at h; exact h
  | succ k ih =>
    by_cases e : K = k + 1
    · rw [← e]; exact h
    · exact hm k r (ih (by omega))
theorem map_some {α β : Type} {o : Option α} {f : α → β} {b : β} (h : o.map f = some b) : ∃ a, o = some a ∧ f a = b := by
  cases o with
  | none => cases h
  | some a => exact ⟨a, rfl, Option.some.inj h⟩
theorem cases4 {a : Int} (h0 : 1 ≤ a) (h1 : a ≤ 4) : a = 1 ∨ a = 2 ∨ a = 3 ∨ a = 4 := by omega
def goodU (cn m : Int) : Bool := inB 1 4 cn && inB 1 4 m
theorem goodU_in {cn m : Int} (h : goodU cn m = true) : (1 ≤ cn ∧ cn ≤ 4) ∧ 1 ≤ m ∧ m ≤ 4 := by
  unfold goodU inB at h
  simp only [Bool.and_eq_true, decide_eq_true_eq] at h
  exact h
theorem cuGood_eq (cn m : Int) : spec_cuGood.f cn m = some (goodU cn m) := by
  unfold spec_cuGood.f spec_l1In.f goodU inB
  by_cases h1 : 1 ≤ cn <;> by_cases h2 : cn ≤ 4 <;> by_cases h3 : 1 ≤ m <;> by_cases h4 : m ≤ 4 <;> simp [h1, h2, h3, h4]
theorem isCompany_eq (cn m : Int) : impl_IsCompany.f cn m = some (goodU cn m) := by
  unfold impl_IsCompany.f impl_in.f goodU inB
  by_cases h1 : 1 ≤ cn <;> by_cases h2 : cn ≤ 4 <;> by_cases h3 : 1 ≤ m <;> by_cases h4 : m ≤ 4 <;> simp [h1, h2, h3, h4]
end Go.Proofs.Ytibdeohiimjocaa.Pure

namespace Go.Proofs.Ytibdeohiimjocaa.Pure
open Go.RowKit Go.Proofs.Ytibdeohiimjocaa.C12 Go.Proofs.Ytibdeohiimjocaa.H Go.Proofs.YtibdeohiimjocaaW.PrintWords Go.Proofs.YtibdeohiimjocaaW.PrintLast Go.Proofs.YtibdeohiimjocaaW.PrintMore
set_option linter.unusedVariables false
set_option linter.unusedSimpArgs false
def allB : Nat → List (List Bool)
  | 0 => [[]]
  | n + 1 => (allB n).map (List.cons false) ++ (allB n).map (List.cons true)
theorem allB_mem : ∀ (n : Nat) (l : List Bool), l.length = n → l ∈ allB n := by
  intro n
  induction n with
  | zero =>
    intro l h
    rw [List.length_eq_zero_iff.1 h]
    exact List.mem_singleton.2 rfl
  | succ n ih =>
    intro l h
    cases l with
    | nil => cases h
    | cons b l =>
      have := ih l (by simpa using h)
      simp only [allB, List.mem_append, List.mem_map]
      cases b with
      | false => exact .inl ⟨l, this, rfl⟩
      | true => exact .inr ⟨l, this, rfl⟩
end Go.Proofs.Ytibdeohiimjocaa.Pure

namespace Go.Proofs.Ytibdeohiimjocaa.Pure
open Go.RowKit Go.Proofs.Ytibdeohiimjocaa.C12 Go.Proofs.Ytibdeohiimjocaa.H Go.Proofs.YtibdeohiimjocaaW.PrintWords Go.Proofs.YtibdeohiimjocaaW.PrintLast Go.Proofs.YtibdeohiimjocaaW.PrintMore
set_option linter.unusedVariables false
set_option linter.unusedSimpArgs false
def upL : Nat → Nat → List (List Int)
  | 0, _ => [[]]
  | c + 1, i => upL c (i + 1) ++ (upL c (i + 1)).map (List.cons (i : Int))
theorem upL_nil : ∀ (c i : Nat), [] ∈ upL c i := by
  intro c
  induction c with
  | zero => intro i; exact List.mem_singleton.2 rfl
  | succ c ih => intro i; exact List.mem_append.2 (.inl (ih (i + 1)))
theorem upL_mem : ∀ (c : Nat) (t : List Int) (i : Nat), (∀ x ∈ t, (i : Int) ≤ x ∧ x < ((i + c : Nat) : Int)) → t.Pairwise (· < ·) → t ∈ upL c i := by
  intro c
  induction c with
  | zero =>
    intro t i h _
    cases t with
    | nil => exact upL_nil 0 i
    | cons x r => have := h x (by simp); omega
  | succ c ih =>
    intro t i h hp
    cases t with
    | nil => exact upL_nil (c + 1) i
    | cons x r =>
      rw [List.pairwise_cons] at hp
      have hx := h x (by simp)
      have hr : ∀ y ∈ r, x < y ∧ y < ((i + (c + 1) : Nat) : Int) := fun y hy => ⟨hp.1 y hy, (h y (by simp [hy])).2⟩
      simp only [upL, List.mem_append, List.mem_map]
      by_cases e : x = (i : Int)
      · refine .inr ⟨r, ih r (i + 1) (fun y hy => ?_) hp.2, by rw [e]⟩
        have := hr y hy
        omega
      · refine .inl (ih (x :: r) (i + 1) (fun y hy => ?_) (List.pairwise_cons.2 hp))
        rcases List.mem_cons.1 hy with rfl | hy
        · omega
        · have := hr y hy; omega
theorem ris_pw : ∀ (r : List Int) (x : Int), risF x r = true → (x :: r).Pairwise (· < ·) := by
  intro r
  induction r with
  | nil => intro x _; simp
  | cons y r ih =>
    intro x h
    simp only [risF, Bool.and_eq_true, decide_eq_true_eq] at h
    have h2 := ih y h.2
    rw [List.pairwise_cons] at h2 ⊢
    refine ⟨fun z hz => ?_, List.pairwise_cons.2 h2⟩
    rcases List.mem_cons.1 hz with rfl | hz
    · exact h.1
    · have := h2.1 z hz; have := h.1; omega
theorem risP_pw {t : List Int} (h : risP t = true) : t.Pairwise (· < ·) := by
  cases t with
  | nil => simp
  | cons x r => exact ris_pw r x h
def cB : List Bool → Int
  | [] => 0
  | b :: l => (if b = true then 1 else 0) + 2 * cB l
def cC (ov : List Bool) (tr : Bool) : Int := 2 * cB ov + (if tr = true then 1 else 0)
def calmS (ov : List Bool) (tr : Bool) : Bool := decide (impl_State_isCalm.f 100000 ov tr = some true)
def chkP (cn m : Int) (ov : List Bool) (tr : Bool) (t : List Int) : Bool := match impl_Company_isRow.f 100000 cn m ov tr t with
  | none => false
  | some false => decide (spec_cuTrip.f 100000 cn m (cC ov tr) t = some false)
  | some true => decide (spec_cuTrip.f 100000 cn m (cC ov tr) t = some true) && (decide ((spec_cuBits.f 100000 t).map (fun b => Go.bits .xor .i64 (cC ov tr) (wrap64 (wrap64 (2 * b) + 1))) = some (cC (mv (!tr) t ov) (!tr))) && (calmS (mv (!tr) t ov) (!tr) && decide (impl_State_moved.f 100000 ov tr t = some (mv (!tr) t ov, !tr))))
def endP (cn m : Int) (ov : List Bool) (tr : Bool) : Bool := match impl_State_code.f 100000 ov tr, impl_last.f (wrap64 (2 * cn)), spec_cuSize.f cn m with
  | some c, some l, some z => decide ((c == l) = (cC ov tr == wrap64 (wrap64 (2 * z) - 1)))
  | _, _, _ => false
def tabP (n : Nat) (cn m : Int) : Bool := (allB n).all fun ov => [false, true].all fun tr => !(calmS ov tr) || (endP cn m ov tr && (upL n 0).all fun t => !(inB 1 m (t.length : Int)) || chkP cn m ov tr t)
theorem tab_end {n : Nat} {cn m : Int} (h : tabP n cn m = true) {ov : List Bool} {tr : Bool} (hl : ov.length = n) (hc : calmS ov tr = true) : endP cn m ov tr = true ∧ ∀ t ∈ upL n 0, inB 1 m (t.length : Int) = true → chkP cn m ov tr t = true := by
  unfold tabP at h
  have h1 := List.all_eq_true.1 h ov (allB_mem n ov hl)
  have h2 := List.all_eq_true.1 h1 tr (by cases tr <;> simp)
  rw [hc] at h2
  simp only [Bool.not_true, Bool.false_or, Bool.and_eq_true] at h2
  refine ⟨h2.1, fun t ht hi => ?_⟩
  have h3 := List.all_eq_true.1 h2.2 t ht
  rw [hi] at h3
  simpa using h3
theorem trip_off {cn m : Int} {n : Nat} (hn : wrap64 (wrap64 (2 * cn) - 1) = (n : Int) - 1) (ov : List Bool) (tr : Bool) (x : Int) (t : List Int) (ht : t.length ≤ 1048576) (h : ¬ (inB 1 m (t.length : Int) = true ∧ t.all (inB 0 ((n : Int) - 1)) = true ∧ risP t = true)) : Ev (fun k => impl_Company_isRow.f k cn m ov tr t) false ∧ Ev (fun k => spec_cuTrip.f k cn m x t) false := by
  have e1 : spec_l1In.f (t.length : Int) 1 m = some (inB 1 m (t.length : Int)) := by
    unfold spec_l1In.f inB
    by_cases h1 : (1 : Int) ≤ (t.length : Int) <;> by_cases h2 : (t.length : Int) ≤ m <;> simp [h1, h2] <;> omega
  have hr := rises_ev t (by omega)
  have hr2 := l1Rising_ev t 0 ((n : Int) - 1) (by omega)
  unfold impl_Company_isRow.f spec_cuTrip.f
  simp only [areIn_eq, e1, hn, Option.bind_some]
  cases a1 : inB 1 m (t.length : Int) with
  | false => exact ⟨by simp only [Bool.false_and, Bool.false_eq_true, if_false]; exact Ev.now _, by simp only [Bool.false_eq_true, if_false]; exact Ev.now _⟩
  | true =>
    cases a2 : t.all (inB 0 ((n : Int) - 1)) with
    | false =>
      rw [a2] at hr2
      refine ⟨by simp only [Bool.and_false, Bool.false_eq_true, if_false]; exact Ev.now _, ?_⟩
      simp only [if_true]
      refine Ev.bind hr2 ?_
      simp only [Bool.false_and, Bool.false_eq_true, if_false]
      exact Ev.now _
    | true =>
      cases a3 : risP t with
      | true => exact absurd ⟨a1, a2, a3⟩ h
      | false =>
        rw [a3] at hr
        rw [a2, a3] at hr2
        refine ⟨?_, ?_⟩
        · simp only [Bool.and_self, if_true]
          refine Ev.bind hr ?_
          simp only [Bool.false_eq_true, if_false]
          exact Ev.now _
        · simp only [if_true]
          refine Ev.bind hr2 ?_
          simp only [Bool.and_false, Bool.false_eq_true, if_false]
          exact Ev.now _
theorem plan_go {n : Nat} {cn m : Int} (hT : tabP n cn m = true) (hn : wrap64 (wrap64 (2 * cn) - 1) = (n : Int) - 1) : ∀ (r pre : List (List Int)) (ov : List Bool) (tr : Bool), (pre ++ r).length ≤ 1048576 → (∀ t ∈ r, t.length ≤ 1048576) → ov.length = n → calmS ov tr = true →
    ∃ b, Ev (fun k => spec_cuPlan.l0 k (cC ov tr) (pre ++ r) ((pre ++ r).length : Int) (pre.length : Int) cn m) b ∧ Ev (fun k => impl_Company_isCalmPlan.l0 k (pre ++ r) ((pre ++ r).length : Int) (pre.length : Int) cn m ov tr) b := by
  intro r
  induction r with
  | nil =>
    intro pre ov tr hl ht ho hc
    obtain ⟨he, _⟩ := tab_end hT ho hc
    unfold endP at he
    cases h1 : impl_State_code.f 100000 ov tr with
    | none => rw [h1] at he; cases he
    | some c =>
      cases h2 : impl_last.f (wrap64 (2 * cn)) with
      | none => rw [h1, h2] at he; cases he
      | some l =>
        cases h3 : spec_cuSize.f cn m with
        | none => rw [h1, h2, h3] at he; cases he
        | some z =>
          rw [h1, h2, h3] at he
          simp only [decide_eq_true_eq] at he
          refine ⟨c == l, ?_, ?_⟩
          · refine Ev.step (fun k => spec_cuPlan.l0.eq_2 ..) ?_
            simp only [if_neg (nlt_end pre), h3, Option.bind_some]
            rw [he]
            exact Ev.now _
          · refine Ev.step (fun k => impl_Company_isCalmPlan.l0.eq_2 ..) ?_
            simp only [if_neg (nlt_end pre)]
            refine Ev.bind (ev_up (f := fun k => impl_State_code.f k ov tr) (fun k => impl_State_code.mono _ _ _) h1) ?_
            simp only [h2, Option.bind_some]
            exact Ev.now _
  | cons t r ih =>
    intro pre ov tr hl ht ho hc
    have htl := ht t (by simp)
    have hrd : rd_L1 (pre ++ t :: r) (pre.length : Int) = t := rdOf_mid [] pre t r
    have hstop : Ev (fun k => impl_Company_isRow.f k cn m ov tr t) false ∧ Ev (fun k => spec_cuTrip.f k cn m (cC ov tr) t) false → ∃ b, Ev (fun k => spec_cuPlan.l0 k (cC ov tr) (pre ++ t :: r) ((pre ++ t :: r).length : Int) (pre.length : Int) cn m) b ∧ Ev (fun k => impl_Company_isCalmPlan.l0 k (pre ++ t :: r) ((pre ++ t :: r).length : Int) (pre.length : Int) cn m ov tr) b := by
      rintro ⟨q1, q2⟩
      refine ⟨false, ?_, ?_⟩
      · refine Ev.step (fun k => spec_cuPlan.l0.eq_2 ..) ?_
        simp only [if_pos (lt_mid pre t r), if_pos (zle pre.length)]
        rw [hrd]
        refine Ev.bind q2 ?_
        simp only [Bool.false_eq_true, if_false]
        exact Ev.now _
      · refine Ev.step (fun k => impl_Company_isCalmPlan.l0.eq_2 ..) ?_
        simp only [if_pos (lt_mid pre t r), if_pos (zle pre.length)]
        rw [hrd]
        refine Ev.bind q1 ?_
        simp only [Bool.false_eq_true, if_false]
        exact Ev.now _
    by_cases hin : inB 1 m (t.length : Int) = true ∧ t.all (inB 0 ((n : Int) - 1)) = true ∧ risP t = true
    · obtain ⟨_, hall⟩ := tab_end hT ho hc
      have hmem : t ∈ upL n 0 := upL_mem n t 0 (fun x hx => by
        have := List.all_eq_true.1 hin.2.1 x hx
        unfold inB at this
        simp only [Bool.and_eq_true, decide_eq_true_eq] at this
        omega) (risP_pw hin.2.2)
      have hk := hall t hmem hin.1
      unfold chkP at hk
      cases hrow : impl_Company_isRow.f 100000 cn m ov tr t with
      | none => rw [hrow] at hk; cases hk
      | some b =>
        have e1 : Ev (fun k => impl_Company_isRow.f k cn m ov tr t) b := ev_up (f := fun k => impl_Company_isRow.f k cn m ov tr t) (fun k => impl_Company_isRow.mono _ _ _ _ _ _) hrow
        cases b with
        | false =>
          rw [hrow] at hk
          simp only [decide_eq_true_eq] at hk
          exact hstop ⟨e1, ev_up (f := fun k => spec_cuTrip.f k cn m (cC ov tr) t) (fun k => spec_cuTrip.mono _ _ _ _ _) hk⟩
        | true =>
          rw [hrow] at hk
          simp only [Bool.and_eq_true, decide_eq_true_eq] at hk
          obtain ⟨k1, k2, k3, k4⟩ := hk
          have e2 := ev_up (f := fun k => spec_cuTrip.f k cn m (cC ov tr) t) (fun k => spec_cuTrip.mono _ _ _ _ _) k1
          obtain ⟨bb, hb, hx⟩ := map_some k2
          have e3 := ev_up (f := fun k => spec_cuBits.f k t) (fun k => spec_cuBits.mono _ _) hb
          have e4 := ev_up (f := fun k => impl_State_moved.f k ov tr t) (fun k => impl_State_moved.mono _ _ _ _) k4
          obtain ⟨b, i1, i2⟩ := ih (pre ++ [t]) (mv (!tr) t ov) (!tr) (by simpa using hl) (fun y hy => ht y (by simp [hy])) (by rw [mv_len]; exact ho) k3
          rw [List.append_assoc] at i1 i2
          have hwr : wrap64 ((pre.length : Int) + 1) = ((pre ++ [t]).length : Int) := wr_mid pre t r (by omega)
          refine ⟨b, ?_, ?_⟩
          · refine Ev.step (fun k => spec_cuPlan.l0.eq_2 ..) ?_
            simp only [if_pos (lt_mid pre t r), if_pos (zle pre.length)]
            rw [hrd]
            refine Ev.bind e2 ?_
            simp only [if_true]
            refine Ev.bind e3 ?_
            rw [hx, hwr]
            exact i1
          · refine Ev.step (fun k => impl_Company_isCalmPlan.l0.eq_2 ..) ?_
            simp only [if_pos (lt_mid pre t r), if_pos (zle pre.length)]
            rw [hrd]
            refine Ev.bind e1 ?_
            simp only [if_true]
            refine Ev.bind e4 ?_
            dsimp only
            rw [hwr]
            exact i2
    · exact hstop (trip_off hn ov tr (cC ov tr) t htl hin)
set_option maxRecDepth 100000 in
theorem tabP11 : tabP 2 1 1 = true := by decide +kernel
set_option maxRecDepth 100000 in
theorem tabP12 : tabP 2 1 2 = true := by decide +kernel
set_option maxRecDepth 100000 in
theorem tabP13 : tabP 2 1 3 = true := by decide +kernel
set_option maxRecDepth 100000 in
theorem tabP14 : tabP 2 1 4 = true := by decide +kernel
set_option maxRecDepth 100000 in
theorem tabP21 : tabP 4 2 1 = true := by decide +kernel
set_option maxRecDepth 100000 in
theorem tabP22 : tabP 4 2 2 = true := by decide +kernel
set_option maxRecDepth 100000 in
theorem tabP23 : tabP 4 2 3 = true := by decide +kernel
set_option maxRecDepth 100000 in
theorem tabP24 : tabP 4 2 4 = true := by decide +kernel
set_option maxRecDepth 100000 in
theorem tabP31 : tabP 6 3 1 = true := by decide +kernel
set_option maxRecDepth 100000 in
theorem tabP32 : tabP 6 3 2 = true := by decide +kernel
set_option maxRecDepth 100000 in
theorem tabP33 : tabP 6 3 3 = true := by decide +kernel
set_option maxRecDepth 100000 in
theorem tabP34 : tabP 6 3 4 = true := by decide +kernel
set_option maxRecDepth 100000 in
theorem tabP41 : tabP 8 4 1 = true := by decide +kernel
set_option maxRecDepth 100000 in
theorem tabP42 : tabP 8 4 2 = true := by decide +kernel
set_option maxRecDepth 100000 in
theorem tabP43 : tabP 8 4 3 = true := by decide +kernel
set_option maxRecDepth 100000 in
theorem tabP44 : tabP 8 4 4 = true := by decide +kernel
theorem plan_fin {n : Nat} {cn m : Int} (hg : goodU cn m = true) (hT : tabP n cn m = true) (hn : wrap64 (wrap64 (2 * cn) - 1) = (n : Int) - 1) (ha : impl_allAt.f (wrap64 (2 * cn)) false = some (List.replicate n false, false)) (h0 : calmS (List.replicate n false) false = true) (hz : cC (List.replicate n false) false = 0) (ts : List (List Int)) (hl : ts.length ≤ 1048576) (hts : ∀ t ∈ ts, t.length ≤ 1048576) : ∃ rr : Bool × Bool, Ev (fun k => spec_IsCalmPlan.f k cn m ts) rr ∧ Ev (fun k => impl_IsCalmPlan.f k cn m ts) rr ∧ True := by
  unfold spec_IsCalmPlan.f impl_IsCalmPlan.f
  rw [cuGood_eq, isCompany_eq, hg]
  simp only [Option.bind_some, if_true]
  by_cases h40 : (ts.length : Int) > 40
  · simp only [if_pos h40]; exact ⟨_, Ev.now _, Ev.now _, trivial⟩
  · simp only [if_neg h40]
    obtain ⟨b, i1, i2⟩ := plan_go hT hn ts [] (List.replicate n false) false (by simpa using hl) hts (by simp) h0
    rw [hz] at i1
    refine ⟨(b, true), Ev.bind (f := fun k t => some (t, true)) (show Ev (fun k => spec_cuPlan.f k cn m ts) b from i1) (Ev.now _), ?_, trivial⟩
    refine Ev.bind (f := fun k t => some (t, true)) (show Ev (fun k => impl_Company_isCalmPlan.f k cn m ts) b from ?_) (Ev.now _)
    unfold impl_Company_isCalmPlan.f
    rw [ha]
    simp only [Option.bind_some]
    exact i2
theorem FnExactIsCalmPlan_both (cn m : Int) (ts : List (List Int)) (hz : n2 ts ≤ 1048576) : ∃ rr : Bool × Bool, Ev (fun k => spec_IsCalmPlan.f k cn m ts) rr ∧ Ev (fun k => impl_IsCalmPlan.f k cn m ts) rr ∧ True := by
  obtain ⟨hn1, hn2⟩ := szSum_bound List.length ts (by simpa only [n2] using hz)
  cases hg : goodU cn m with
  | false =>
    unfold spec_IsCalmPlan.f impl_IsCalmPlan.f
    rw [cuGood_eq, isCompany_eq, hg]
    simp only [Option.bind_some, Bool.false_eq_true, if_false]
    exact ⟨_, Ev.now _, Ev.now _, trivial⟩
  | true =>
    obtain ⟨⟨h0, h1⟩, h2, h3⟩ := goodU_in hg
    rcases cases4 h0 h1 with rfl | rfl | rfl | rfl <;> rcases cases4 h2 h3 with rfl | rfl | rfl | rfl
    · exact plan_fin hg tabP11 (by decide +kernel) (by decide +kernel) (by decide +kernel) (by decide +kernel) ts hn1 hn2
    · exact plan_fin hg tabP12 (by decide +kernel) (by decide +kernel) (by decide +kernel) (by decide +kernel) ts hn1 hn2
    · exact plan_fin hg tabP13 (by decide +kernel) (by decide +kernel) (by decide +kernel) (by decide +kernel) ts hn1 hn2
    · exact plan_fin hg tabP14 (by decide +kernel) (by decide +kernel) (by decide +kernel) (by decide +kernel) ts hn1 hn2
    · exact plan_fin hg tabP21 (by decide +kernel) (by decide +kernel) (by decide +kernel) (by decide +kernel) ts hn1 hn2
    · exact plan_fin hg tabP22 (by decide +kernel) (by decide +kernel) (by decide +kernel) (by decide +kernel) ts hn1 hn2
    · exact plan_fin hg tabP23 (by decide +kernel) (by decide +kernel) (by decide +kernel) (by decide +kernel) ts hn1 hn2
    · exact plan_fin hg tabP24 (by decide +kernel) (by decide +kernel) (by decide +kernel) (by decide +kernel) ts hn1 hn2
    · exact plan_fin hg tabP31 (by decide +kernel) (by decide +kernel) (by decide +kernel) (by decide +kernel) ts hn1 hn2
    · exact plan_fin hg tabP32 (by decide +kernel) (by decide +kernel) (by decide +kernel) (by decide +kernel) ts hn1 hn2
    · exact plan_fin hg tabP33 (by decide +kernel) (by decide +kernel) (by decide +kernel) (by decide +kernel) ts hn1 hn2
    · exact plan_fin hg tabP34 (by decide +kernel) (by decide +kernel) (by decide +kernel) (by decide +kernel) ts hn1 hn2
    · exact plan_fin hg tabP41 (by decide +kernel) (by decide +kernel) (by decide +kernel) (by decide +kernel) ts hn1 hn2
    · exact plan_fin hg tabP42 (by decide +kernel) (by decide +kernel) (by decide +kernel) (by decide +kernel) ts hn1 hn2
    · exact plan_fin hg tabP43 (by decide +kernel) (by decide +kernel) (by decide +kernel) (by decide +kernel) ts hn1 hn2
    · exact plan_fin hg tabP44 (by decide +kernel) (by decide +kernel) (by decide +kernel) (by decide +kernel) ts hn1 hn2
theorem FnExactIsCalmPlan_pure : ∀ (a0_0 : Int) (a0_1 : Int) (l1 : List (List Int)), goodI a0_0 → goodI a0_1 → goodL (goodL goodI) l1 → ∃ k, laws_FnExactIsCalmPlan.f k a0_0 a0_1 l1 = some true := by
  intro a0_0 a0_1 l1 g0_0 g0_1 g1
  obtain ⟨u1, hu1, hc⟩ := szIntSS_cases l1 1048576 (by omega) (by omega) (good2 g1)
  rcases hc with hc | ⟨b1, d1⟩
  · refine Ev.rounds ?_
    unfold laws_FnExactIsCalmPlan.f
    repeat (first | exact Ev.now _ | (refine Ev.bind (by assumption) ?_; try dsimp only) | (simp only [hc, if_true, if_false, bne_self_eq_false, Bool.false_eq_true]) | refine Ev.step (fun k => laws_FnExactIsCalmPlan.j0.eq_2 ..) ?_ | refine Ev.step (fun k => laws_FnExactIsCalmPlan.j1.eq_2 ..) ?_ | refine Ev.step (fun k => laws_FnExactIsCalmPlan.j2.eq_2 ..) ?_)
  have nu1 : ¬ u1 < 0 := by omega
  have z1 : n2 l1 ≤ 1048576 := by omega
  have et0 := ev_some (toCompany_ev a0_0 a0_1 )
  have et1 := toIntSS_ev l1 z1
  obtain ⟨rr, es, ei, hsm⟩ := FnExactIsCalmPlan_both a0_0 a0_1 l1 z1
  obtain ⟨r0, r1⟩ := rr
  have ea1 : Ev (fun k => laws_eqIntSS.f k l1 l1) true := ev_eq (eqIntSS_ev l1 l1 z1) (decide_eq_true rfl)
  refine Ev.rounds ?_
  unfold laws_FnExactIsCalmPlan.f
  repeat (first | exact Ev.now _ | (refine Ev.bind (by assumption) ?_; try dsimp only) | (simp only [nu1, if_true, if_false, bne_self_eq_false, Bool.false_eq_true]) | refine Ev.step (fun k => laws_FnExactIsCalmPlan.j0.eq_2 ..) ?_ | refine Ev.step (fun k => laws_FnExactIsCalmPlan.j1.eq_2 ..) ?_ | refine Ev.step (fun k => laws_FnExactIsCalmPlan.j2.eq_2 ..) ?_)
end Go.Proofs.Ytibdeohiimjocaa.Pure
