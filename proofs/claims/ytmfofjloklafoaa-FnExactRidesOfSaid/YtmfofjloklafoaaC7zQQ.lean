import Derived.Test.YtmfofjloklafoaaC7zx0
import Derived.Test.YtmfofjloklafoaaC7zH0
import Derived.Test.YtmfofjloklafoaaC7zH1
import Derived.Test.YtmfofjloklafoaaC7zx1
import Derived.Test.YtmfofjloklafoaaC7zx12
import Derived.Test.YtmfofjloklafoaaC7zx13
import Derived.Test.YtmfofjloklafoaaC7zx7
import Derived.Test.YtmfofjloklafoaaC7zx8
import Derived.Test.YtmfofjloklafoaaC7zx10
import Derived.Test.YtmfofjloklafoaaC7zx11
import Derived.Test.YtmfofjloklafoaaC7zx2
import Derived.Test.YtmfofjloklafoaaC7zx3
import Derived.Test.YtmfofjloklafoaaC7zx9
import Derived.Test.YtmfofjloklafoaaC7zx4
import Derived.Test.YtmfofjloklafoaaC7zx5
import Derived.Test.YtmfofjloklafoaaC7zx6
import Derived.Test.YtmfofjloklafoaaC7zH2
import Derived.Test.YtmfofjloklafoaaC7zS
namespace Go.Proofs.Ytmfofjloklafoaa.Pure
open Go.RowKit Go.Proofs.Ytmfofjloklafoaa.C7 Go.Proofs.Ytmfofjloklafoaa.H Go.Proofs.YtmfofjloklafoaaW.PrintWords Go.Proofs.YtmfofjloklafoaaW.PrintLast Go.Proofs.YtmfofjloklafoaaW.PrintMore
set_option linter.unusedVariables false
set_option linter.unusedSimpArgs false
def szSum {α : Type} (f : α → Nat) : List α → Nat
  | [] => 0
  | x :: l => f x + szSum f l
def n2 (l : List (List Int)) : Nat := l.length + szSum List.length l
def n3 (l : List (List (List Int))) : Nat := l.length + szSum n2 l
theorem szSum_bound {α : Type} (f : α → Nat) (l : List α) {B : Nat} (h : l.length + szSum f l ≤ B) : l.length ≤ B ∧ ∀ x ∈ l, f x ≤ B := by
  refine ⟨by omega, ?_⟩
  have h2 : szSum f l ≤ B := by omega
  clear h
  induction l with
  | nil => intro x hx; cases hx
  | cons y l ih =>
    simp only [szSum] at h2
    intro x hx
    rcases List.mem_cons.1 hx with rfl | hx
    · omega
    · exact ih (by omega) x hx
theorem mkS_bound (l : List Int) : ∀ a : Int, 0 ≤ a → a + l.length ≤ 1000000000000000 → a ≤ (mkS l a).1 ∧ (mkS l a).1 ≤ a + l.length := by
  induction l with
  | nil => intro a _ _; simp [mkS]
  | cons x l ih =>
    intro a h0 h1
    simp only [List.length_cons] at h1
    simp only [mkS]
    rw [wr_id (by omega) (by omega)]
    have := ih (a + 1) (by omega) (by omega)
    simp only [List.length_cons]
    omega
theorem mkB_bound (l : List Bool) : ∀ a : Int, 0 ≤ a → a + l.length ≤ 1000000000000000 → a ≤ (mkB l a).1 ∧ (mkB l a).1 ≤ a + l.length := by
  induction l with
  | nil => intro a _ _; simp [mkB]
  | cons x l ih =>
    intro a h0 h1
    simp only [List.length_cons] at h1
    simp only [mkB]
    rw [wr_id (by omega) (by omega)]
    have := ih (a + 1) (by omega) (by omega)
    simp only [List.length_cons]
    omega
theorem mkS_len (l : List Int) : ∀ a : Int, (mkS l a).2.length = l.length := by
  induction l with
  | nil => intro a; rfl
  | cons x l ih => intro a; simp only [mkS, List.length_cons]; rw [ih]
theorem mkSS_len (l : List (List Int)) : ∀ a : Int, (mkSS l a).2.length = l.length := by
  induction l with
  | nil => intro a; rfl
  | cons x l ih => intro a; simp only [mkSS, List.length_cons]; rw [ih]
theorem mkSS_bound' (l : List (List Int)) : ∀ a : Int, 0 ≤ a → a + szSum List.length l ≤ 1000000000000000 → a ≤ (mkSS l a).1 ∧ (mkSS l a).1 ≤ a + szSum List.length l := by
  induction l with
  | nil => intro a _ _; simp [mkSS, szSum]
  | cons x l ih =>
    intro a h0 h1
    simp only [szSum] at h1
    have h2 := mkS_bound x a h0 (by omega)
    have := ih (mkS x a).1 (by omega) (by omega)
    simp only [mkSS, szSum]
    omega
theorem mkSS_bound (l : List (List Int)) (a : Int) (h0 : 0 ≤ a) (ha : a + n2 l ≤ 1000000000000000) : a ≤ (mkSS l a).1 ∧ (mkSS l a).1 ≤ a + n2 l := by
  simp only [n2] at ha ⊢
  have := mkSS_bound' l a h0 (by omega)
  omega
end Go.Proofs.Ytmfofjloklafoaa.Pure

namespace Go.Proofs.Ytmfofjloklafoaa.Pure
open Go.RowKit Go.Proofs.Ytmfofjloklafoaa.C7 Go.Proofs.Ytmfofjloklafoaa.H Go.Proofs.YtmfofjloklafoaaW.PrintWords Go.Proofs.YtmfofjloklafoaaW.PrintLast Go.Proofs.YtmfofjloklafoaaW.PrintMore
set_option linter.unusedVariables false
set_option linter.unusedSimpArgs false
def goodIntS (l : List Int) : Prop := l.length ≤ 9223372036854775807
theorem szIntS_cases (l : List Int) (a : Int) (h0 : 0 ≤ a) (ha : a ≤ 1048576) (hg : goodIntS l) : ∃ t, laws_szIntS.f l a = some t ∧ (t < 0 ∨ (0 ≤ t ∧ t + (l.length : Int) ≤ a)) := by
  have hl : l.length ≤ 9223372036854775807 := hg
  unfold laws_szIntS.f
  rw [wr_id (by omega) (by omega)]
  by_cases h : a - (l.length : Int) < 0
  · exact ⟨-1, by rw [if_pos h], .inl (by omega)⟩
  · exact ⟨_, by rw [if_neg h], .inr ⟨by omega, by omega⟩⟩
theorem toIntS_loop (x0 : List Int) : ∀ (r pre suf : List Int), x0 = pre ++ r → suf.length = r.length → x0.length ≤ 9223372036854775807 → Ev (fun k => laws_toIntS.l0 k x0 (pre ++ suf) (pre.length : Int)) x0 := by
  intro r
  induction r with
  | nil =>
    intro pre suf e hs hl
    obtain rfl : suf = [] := List.eq_nil_of_length_eq_zero hs
    subst e
    refine Ev.step (f := fun _ => some _) (fun k => ?_) (Ev.now _)
    simp only [laws_toIntS.l0]
    rw [if_neg (nlt_end pre)]
  | cons x r ih =>
    intro pre suf e hs hl
    match suf, hs with
    | y :: suf, hs =>
      subst e
      refine Ev.step (fun k => ?_) (ev_eq (ih (pre ++ [x]) suf (by simp) (by simpa using hs) hl) rfl)
      simp only [laws_toIntS.l0]
      rw [if_pos (lt_mid pre x r), if_pos (zle _), if_pos (lt_mid pre y suf), rd_mid, set_mid, wr_mid pre x r hl, app_mid pre x suf]
theorem toIntS_ev (l : List Int) (hl : l.length ≤ 1048576) : Ev (fun k => laws_toIntS.f k l) l := by
  unfold laws_toIntS.f
  simp only [if_pos (zle l.length), if_pos (show ((l.length : Int)).toNat ≤ 35184372088832 by omega)]
  exact toIntS_loop l l [] _ rfl (by simp) (by omega)
theorem eqIntS_loop : ∀ (r s pre qre : List Int), pre.length = qre.length → r.length = s.length → (pre ++ r).length ≤ 9223372036854775807 → Ev (fun k => laws_eqIntS.l0 k (pre ++ r) (qre ++ s) (pre.length : Int)) (decide (r = s)) := by
  intro r
  induction r with
  | nil =>
    intro s pre qre hp hs hl
    obtain rfl : s = [] := List.eq_nil_of_length_eq_zero hs.symm
    refine Ev.step (f := fun _ => some _) (fun k => ?_) (Ev.now _)
    simp only [laws_eqIntS.l0]
    rw [if_neg (nlt_end pre)]
    rfl
  | cons x r ih =>
    intro s pre qre hp hs hl
    match s, hs with
    | y :: s, hs =>
      by_cases e : x = y
      · subst e
        refine Ev.step (fun k => ?_) (ev_eq (ih s (pre ++ [x]) (qre ++ [x]) (by simp [hp]) (by simpa using hs) (by simpa using hl)) (by simp))
        simp only [laws_eqIntS.l0]
        rw [if_pos (lt_mid pre x r), if_pos (zle _), if_pos (by rw [hp]; exact lt_mid qre x s), rd_mid, hp, rd_mid, if_pos rfl, ← hp, wr_mid pre x r hl, app_mid pre x r, app_mid qre x s]
      · refine Ev.step (f := fun _ => some _) (fun k => ?_) (Ev.now _)
        simp only [laws_eqIntS.l0]
        rw [if_pos (lt_mid pre x r), if_pos (zle _), if_pos (by rw [hp]; exact lt_mid qre y s), rd_mid, hp, rd_mid, if_neg e]
        simp [e]
theorem eqIntS_ev (l s : List Int) (hl : l.length ≤ 1048576) : Ev (fun k => laws_eqIntS.f k l s) (decide (l = s)) := by
  unfold laws_eqIntS.f
  by_cases h : l.length = s.length
  · simp only [if_pos (show (l.length : Int) = (s.length : Int) by omega)]
    exact eqIntS_loop l s [] [] rfl h (by simp; omega)
  · simp only [if_neg (show ¬ (l.length : Int) = (s.length : Int) by omega)]
    refine ev_eq (Ev.now _) ?_
    have : l ≠ s := fun e => h (by rw [e])
    simp [this]
theorem heldIntS_loop : ∀ (r pre : List Int) (a : Int), (pre ++ r).length ≤ 9223372036854775807 → Ev (fun k => laws_heldIntS.l0 k (pre ++ (mkS r a).2) a (pre.length : Int)) (mkS r a).1 := by
  intro r
  induction r with
  | nil =>
    intro pre a hl
    refine Ev.step (f := fun _ => some a) (fun k => ?_) (Ev.now _)
    show laws_heldIntS.l0 (k + 1) (pre ++ []) a (pre.length : Int) = some a
    simp only [laws_heldIntS.l0]
    rw [if_neg (nlt_end pre)]
  | cons x r ih =>
    intro pre a hl
    refine Ev.step (fun k => ?_) (ev_eq (ih (pre ++ [a]) (wrap64 (a + 1)) (by simpa using hl)) (by simp [mkS]))
    show laws_heldIntS.l0 (k + 1) (pre ++ (a) :: (mkS r (wrap64 (a + 1))).2) a (pre.length : Int) = _
    simp only [laws_heldIntS.l0]
    rw [if_pos (lt_mid pre (a) _), if_pos (zle _), rd_mid, if_pos rfl, wr_mid pre (a) _ (by simp [mkS_len] at hl ⊢; omega), app_mid pre (a)]
theorem heldIntS_ev (l : List Int) (a : Int) (h0 : 0 ≤ a) (ha : a + l.length ≤ 1000000000000000) (hl : l.length ≤ 1048576) : Ev (fun k => laws_heldIntS.f k (mkS l a).2 a) (mkS l a).1 := heldIntS_loop l [] a (by simp; omega)
def goodBoolS (l : List Bool) : Prop := l.length ≤ 9223372036854775807
theorem szBoolS_cases (l : List Bool) (a : Int) (h0 : 0 ≤ a) (ha : a ≤ 1048576) (hg : goodBoolS l) : ∃ t, laws_szBoolS.f l a = some t ∧ (t < 0 ∨ (0 ≤ t ∧ t + (l.length : Int) ≤ a)) := by
  have hl : l.length ≤ 9223372036854775807 := hg
  unfold laws_szBoolS.f
  rw [wr_id (by omega) (by omega)]
  by_cases h : a - (l.length : Int) < 0
  · exact ⟨-1, by rw [if_pos h], .inl (by omega)⟩
  · exact ⟨_, by rw [if_neg h], .inr ⟨by omega, by omega⟩⟩
theorem toBoolS_loop (x0 : List Bool) : ∀ (r pre suf : List Bool), x0 = pre ++ r → suf.length = r.length → x0.length ≤ 9223372036854775807 → Ev (fun k => laws_toBoolS.l0 k x0 (pre ++ suf) (pre.length : Int)) x0 := by
  intro r
  induction r with
  | nil =>
    intro pre suf e hs hl
    obtain rfl : suf = [] := List.eq_nil_of_length_eq_zero hs
    subst e
    refine Ev.step (f := fun _ => some _) (fun k => ?_) (Ev.now _)
    simp only [laws_toBoolS.l0]
    rw [if_neg (nlt_end pre)]
  | cons x r ih =>
    intro pre suf e hs hl
    match suf, hs with
    | y :: suf, hs =>
      subst e
      refine Ev.step (fun k => ?_) (ev_eq (ih (pre ++ [x]) suf (by simp) (by simpa using hs) hl) rfl)
      simp only [laws_toBoolS.l0]
      rw [if_pos (lt_mid pre x r), if_pos (zle _), if_pos (lt_mid pre y suf), rdOf_mid, set_mid, wr_mid pre x r hl, app_mid pre x suf]
theorem toBoolS_ev (l : List Bool) (hl : l.length ≤ 1048576) : Ev (fun k => laws_toBoolS.f k l) l := by
  unfold laws_toBoolS.f
  simp only [if_pos (zle l.length), if_pos (show ((l.length : Int)).toNat ≤ 281474976710656 by omega)]
  exact toBoolS_loop l l [] _ rfl (by simp) (by omega)
theorem markBoolS_loop : ∀ (r pre : List Bool) (a : Int), (pre ++ r).length ≤ 9223372036854775807 → Ev (fun k => laws_markBoolS.l0 k (pre ++ r) a (pre.length : Int)) ((mkB r a).1, pre ++ (mkB r a).2) := by
  intro r
  induction r with
  | nil =>
    intro pre a hl
    refine Ev.step (f := fun _ => some _) (fun k => ?_) (Ev.now _)
    simp only [laws_markBoolS.l0]
    rw [if_neg (nlt_end pre)]
    rfl
  | cons x r ih =>
    intro pre a hl
    refine Ev.step (fun k => ?_) (ev_eq (ih (pre ++ [Int.tmod a 3 == 0]) (wrap64 (a + 1)) (by simpa using hl)) (by simp [mkB]))
    simp only [laws_markBoolS.l0]
    rw [if_pos (lt_mid pre x r), if_pos (zle _), set_mid, wr_mid pre x r hl, app_mid pre (Int.tmod a 3 == 0) r]
    simp
theorem markBoolS_ev (l : List Bool) (a : Int) (hl : l.length ≤ 1048576) : Ev (fun k => laws_markBoolS.f k l a) (mkB l a) := markBoolS_loop l [] a (by simp; omega)
theorem eqBoolS_loop : ∀ (r s pre qre : List Bool), pre.length = qre.length → r.length = s.length → (pre ++ r).length ≤ 9223372036854775807 → Ev (fun k => laws_eqBoolS.l0 k (pre ++ r) (qre ++ s) (pre.length : Int)) (decide (r = s)) := by
  intro r
  induction r with
  | nil =>
    intro s pre qre hp hs hl
    obtain rfl : s = [] := List.eq_nil_of_length_eq_zero hs.symm
    refine Ev.step (f := fun _ => some _) (fun k => ?_) (Ev.now _)
    simp only [laws_eqBoolS.l0]
    rw [if_neg (nlt_end pre)]
    rfl
  | cons x r ih =>
    intro s pre qre hp hs hl
    match s, hs with
    | y :: s, hs =>
      by_cases e : x = y
      · subst e
        refine Ev.step (fun k => ?_) (ev_eq (ih s (pre ++ [x]) (qre ++ [x]) (by simp [hp]) (by simpa using hs) (by simpa using hl)) (by simp))
        simp only [laws_eqBoolS.l0]
        rw [if_pos (lt_mid pre x r), if_pos (zle _), if_pos (by rw [hp]; exact lt_mid qre x s), rdOf_mid, hp, rdOf_mid, if_neg (by simp), ← hp, wr_mid pre x r hl, app_mid pre x r, app_mid qre x s]
      · refine Ev.step (f := fun _ => some _) (fun k => ?_) (Ev.now _)
        simp only [laws_eqBoolS.l0]
        rw [if_pos (lt_mid pre x r), if_pos (zle _), if_pos (by rw [hp]; exact lt_mid qre y s), rdOf_mid, hp, rdOf_mid, if_pos (by simpa using e)]
        simp [e]
theorem eqBoolS_ev (l s : List Bool) (hl : l.length ≤ 1048576) : Ev (fun k => laws_eqBoolS.f k l s) (decide (l = s)) := by
  unfold laws_eqBoolS.f
  by_cases h : l.length = s.length
  · simp only [if_pos (show (l.length : Int) = (s.length : Int) by omega)]
    exact eqBoolS_loop l s [] [] rfl h (by simp; omega)
  · simp only [if_neg (show ¬ (l.length : Int) = (s.length : Int) by omega)]
    refine ev_eq (Ev.now _) ?_
    have : l ≠ s := fun e => h (by rw [e])
    simp [this]
theorem rd_L2_mid (pre : List (List Int)) (x : List Int) (r : List (List Int)) : rd_L1 (pre ++ x :: r) (pre.length : Int) = x := by simp [rd_L1]
theorem szIntSS_loop : ∀ (r pre : List (List Int)) (a : Int), 0 ≤ a → a ≤ 1048576 → (pre ++ r).length ≤ 9223372036854775807 → (∀ x ∈ r, goodIntS x) → ∃ t, Ev (fun k => laws_szIntSS.l0 k (pre ++ r) a (pre.length : Int)) t ∧ (t < 0 ∨ (0 ≤ t ∧ t + (szSum List.length r : Int) ≤ a)) := by
  intro r
  induction r with
  | nil =>
    intro pre a h0 ha hl hg
    refine ⟨a, ?_, .inr ⟨h0, by simp [szSum]⟩⟩
    refine Ev.step (f := fun _ => some a) (fun k => ?_) (Ev.now _)
    simp only [laws_szIntSS.l0]
    rw [if_neg (nlt_end pre)]
  | cons x r ih =>
    intro pre a h0 ha hl hg
    obtain ⟨t, ht, hc⟩ := szIntS_cases x a h0 ha (hg x (by simp))
    have hE : Ev (fun k => laws_szIntS.f x a) t := ev_some ht
    rcases hc with hc | ⟨hc0, hc1⟩
    · refine ⟨-1, Ev.step (f := fun k => (laws_szIntS.f x a).bind fun t => if t < 0 then some (-1) else laws_szIntSS.l0 k (pre ++ x :: r) t (wrap64 ((pre.length : Int) + 1))) (fun k => ?_) (Ev.bind hE ?_), .inl (by omega)⟩
      · simp only [laws_szIntSS.l0]
        rw [if_pos (lt_mid pre x r), if_pos (zle _), rd_L2_mid]
      · simp only [if_pos hc]
        exact Ev.now _
    · obtain ⟨t2, ht2, h2⟩ := ih (pre ++ [x]) t hc0 (by omega) (by simpa using hl) (fun y hy => hg y (by simp [hy]))
      refine ⟨t2, Ev.step (f := fun k => (laws_szIntS.f x a).bind fun t => if t < 0 then some (-1) else laws_szIntSS.l0 k (pre ++ x :: r) t (wrap64 ((pre.length : Int) + 1))) (fun k => ?_) (Ev.bind hE ?_), ?_⟩
      · simp only [laws_szIntSS.l0]
        rw [if_pos (lt_mid pre x r), if_pos (zle _), rd_L2_mid]
      · simp only [if_neg (show ¬ t < 0 by omega)]
        rw [wr_mid pre x r hl, app_mid pre x r]
        exact ht2
      · rcases h2 with h2 | ⟨h2, h3⟩
        · exact .inl h2
        · exact .inr ⟨h2, by simp only [szSum]; omega⟩
def goodIntSS (l : List (List Int)) : Prop := l.length ≤ 9223372036854775807 ∧ ∀ x ∈ l, goodIntS x
theorem szIntSS_cases (l : List (List Int)) (a : Int) (h0 : 0 ≤ a) (ha : a ≤ 1048576) (hg : goodIntSS l) : ∃ t, Ev (fun k => laws_szIntSS.f k l a) t ∧ (t < 0 ∨ (0 ≤ t ∧ t + (n2 l : Int) ≤ a)) := by
  have hl := hg.1
  unfold laws_szIntSS.f
  rw [wr_id (by omega) (by omega)]
  by_cases h : a - (l.length : Int) < 0
  · exact ⟨-1, by simp only [if_pos h]; exact Ev.now _, .inl (by omega)⟩
  · obtain ⟨t, ht, hc⟩ := szIntSS_loop l [] (a - l.length) (by omega) (by omega) hl hg.2
    refine ⟨t, by simp only [if_neg h]; exact ht, ?_⟩
    rcases hc with hc | ⟨h1, h2⟩
    · exact .inl hc
    · exact .inr ⟨h1, by simp only [n2]; omega⟩
theorem toIntSS_loop (x0 : List (List Int)) (hx : ∀ x ∈ x0, List.length x ≤ 1048576) : ∀ (r pre suf : List (List Int)), x0 = pre ++ r → suf.length = r.length → x0.length ≤ 9223372036854775807 → Ev (fun k => laws_toIntSS.l0 k x0 (pre ++ suf) (pre.length : Int)) x0 := by
  intro r
  induction r with
  | nil =>
    intro pre suf e hs hl
    obtain rfl : suf = [] := List.eq_nil_of_length_eq_zero hs
    subst e
    refine Ev.step (f := fun _ => some _) (fun k => ?_) (Ev.now _)
    simp only [laws_toIntSS.l0]
    rw [if_neg (nlt_end pre)]
  | cons x r ih =>
    intro pre suf e hs hl
    match suf, hs with
    | y :: suf, hs =>
      subst e
      refine Ev.step (f := fun k => (laws_toIntS.f k x).bind fun t => if (pre.length : Int) < ((pre ++ y :: suf).length : Int) then laws_toIntSS.l0 k (pre ++ x :: r) ((pre ++ y :: suf).set ((pre.length : Int)).toNat t) (wrap64 ((pre.length : Int) + 1)) else none) (fun k => ?_) (Ev.bind (toIntS_ev x (hx x (by simp))) ?_)
      · simp only [laws_toIntSS.l0]
        rw [if_pos (lt_mid pre x r), if_pos (zle _), rd_L2_mid]
      · simp only [if_pos (lt_mid pre y suf)]
        rw [set_mid, wr_mid pre x r hl, app_mid pre x suf]
        exact ih (pre ++ [x]) suf (by simp) (by simpa using hs) hl
theorem toIntSS_ev (l : List (List Int)) (hl : n2 l ≤ 1048576) : Ev (fun k => laws_toIntSS.f k l) l := by
  have h1 := szSum_bound List.length l (by simpa only [n2] using hl)
  unfold laws_toIntSS.f
  simp only [if_pos (zle l.length), if_pos (show ((l.length : Int)).toNat ≤ 11728124029610 by omega)]
  exact toIntSS_loop l h1.2 l [] _ rfl (by simp) (by omega)
theorem eqIntSS_loop : ∀ (r s pre qre : List (List Int)), pre.length = qre.length → r.length = s.length → (pre ++ r).length ≤ 9223372036854775807 → (∀ x ∈ r, List.length x ≤ 1048576) → Ev (fun k => laws_eqIntSS.l0 k (pre ++ r) (qre ++ s) (pre.length : Int)) (decide (r = s)) := by
  intro r
  induction r with
  | nil =>
    intro s pre qre hp hs hl hx
    obtain rfl : s = [] := List.eq_nil_of_length_eq_zero hs.symm
    refine Ev.step (f := fun _ => some _) (fun k => ?_) (Ev.now _)
    simp only [laws_eqIntSS.l0]
    rw [if_neg (nlt_end pre)]
    rfl
  | cons x r ih =>
    intro s pre qre hp hs hl hx
    match s, hs with
    | y :: s, hs =>
      refine Ev.step (f := fun k => (laws_eqIntS.f k x y).bind fun t => if t = true then laws_eqIntSS.l0 k (pre ++ x :: r) (qre ++ y :: s) (wrap64 ((pre.length : Int) + 1)) else some false) (fun k => ?_) (Ev.bind (eqIntS_ev x y (hx x (by simp))) ?_)
      · simp only [laws_eqIntSS.l0]
        rw [if_pos (lt_mid pre x r), if_pos (zle _), if_pos (by rw [hp]; exact lt_mid qre y s), rd_L2_mid, hp, rd_L2_mid, ← hp]
      · by_cases e : x = y
        · subst e
          simp only [decide_true, if_true]
          rw [wr_mid pre x r hl, app_mid pre x r, app_mid qre x s]
          exact ev_eq (ih s (pre ++ [x]) (qre ++ [x]) (by simp [hp]) (by simpa using hs) (by simpa using hl) (fun y hy => hx y (by simp [hy]))) (by simp)
        · simp only [decide_eq_false e, if_neg Bool.false_ne_true]
          exact ev_eq (Ev.now _) (by simp [e])
theorem eqIntSS_ev (l s : List (List Int)) (hl : n2 l ≤ 1048576) : Ev (fun k => laws_eqIntSS.f k l s) (decide (l = s)) := by
  have h1 := szSum_bound List.length l (by simpa only [n2] using hl)
  unfold laws_eqIntSS.f
  by_cases h : l.length = s.length
  · simp only [if_pos (show (l.length : Int) = (s.length : Int) by omega)]
    exact eqIntSS_loop l s [] [] rfl h (by simp; omega) h1.2
  · simp only [if_neg (show ¬ (l.length : Int) = (s.length : Int) by omega)]
    refine ev_eq (Ev.now _) ?_
    have : l ≠ s := fun e => h (by rw [e])
    simp [this]
theorem heldIntSS_loop : ∀ (r pre : List (List Int)) (a : Int), 0 ≤ a → a + szSum List.length r ≤ 1000000000000000 → (pre ++ r).length ≤ 9223372036854775807 → (∀ x ∈ r, List.length x ≤ 1048576) → Ev (fun k => laws_heldIntSS.l0 k (pre ++ (mkSS r a).2) a (pre.length : Int)) (mkSS r a).1 := by
  intro r
  induction r with
  | nil =>
    intro pre a h0 ha hl hx
    refine Ev.step (f := fun _ => some a) (fun k => ?_) (Ev.now _)
    show laws_heldIntSS.l0 (k + 1) (pre ++ []) a (pre.length : Int) = some a
    simp only [laws_heldIntSS.l0]
    rw [if_neg (nlt_end pre)]
  | cons x r ih =>
    intro pre a h0 ha hl hx
    simp only [szSum] at ha
    have hb := mkS_bound x a h0 (by omega)
    refine Ev.step (f := fun k => (laws_heldIntS.f k (mkS x a).2 a).bind fun t => if t < 0 then some (-1) else laws_heldIntSS.l0 k (pre ++ (mkS x a).2 :: (mkSS r (mkS x a).1).2) t (wrap64 ((pre.length : Int) + 1))) (fun k => ?_) (Ev.bind (heldIntS_ev x a h0 (by omega) (hx x (by simp))) ?_)
    · show laws_heldIntSS.l0 (k + 1) (pre ++ (mkS x a).2 :: (mkSS r (mkS x a).1).2) a (pre.length : Int) = _
      simp only [laws_heldIntSS.l0]
      rw [if_pos (lt_mid pre _ _), if_pos (zle _), rd_L2_mid]
    · simp only [if_neg (show ¬ (mkS x a).1 < 0 by omega)]
      rw [wr_mid pre _ _ (by simp [mkSS_len] at hl ⊢; omega), app_mid pre]
      exact ih (pre ++ [_]) _ (by omega) (by omega) (by simpa using hl) (fun y hy => hx y (by simp [hy]))
theorem heldIntSS_ev (l : List (List Int)) (a : Int) (h0 : 0 ≤ a) (ha : a + n2 l ≤ 1000000000000000) (hl : n2 l ≤ 1048576) : Ev (fun k => laws_heldIntSS.f k (mkSS l a).2 a) (mkSS l a).1 := by
  have h1 := szSum_bound List.length l (by simpa only [n2] using hl)
  exact heldIntSS_loop l [] a h0 (by simp only [n2] at ha; omega) (by simp; omega) h1.2
theorem good2 {l : List (List Int)} (h : goodL (goodL goodI) l) : goodIntSS l := ⟨h.1, fun x hx => (h.2 x hx).1⟩
theorem markIntSS_ev (l : List (List Int)) (a : Int) : laws_markIntSS.f l a = some (mkSS l a) := rfl
theorem szBank_cases (f0 : List Bool) (f1 : Bool) (a : Int) (h0 : 0 ≤ a) (ha : a ≤ 1048576) (g0 : goodBoolS f0) : ∃ t, laws_szBank.f f0 f1 a = some t ∧ (t < 0 ∨ (0 ≤ t ∧ t + (List.length f0 : Int) ≤ a)) := by
  unfold laws_szBank.f
  obtain ⟨t0, e0, hc⟩ := szBoolS_cases f0 a h0 ha g0
  rcases hc with hc | ⟨b0, c0⟩
  · exact ⟨-1, by simp [e0, hc], .inl (by omega)⟩
  exact ⟨t0, by simp [e0, show ¬ t0 < 0 by omega], .inr ⟨b0, by omega⟩⟩
theorem toBank_ev (f0 : List Bool) (f1 : Bool) (h0 : List.length f0 ≤ 1048576) : Ev (fun k => laws_toBank.f k f0 f1) (f0, f1) := Ev.bind (toBoolS_ev f0 h0) (Ev.now _)
theorem eqBank_ev (f0 : List Bool) (f1 : Bool) (s0 : List Bool) (s1 : Bool) (h0 : List.length f0 ≤ 1048576) : Ev (fun k => laws_eqBank.f k f0 f1 s0 s1) (decide ((f0, f1) = (s0, s1))) := by
  obtain ⟨K0, e0⟩ := eqBoolS_ev f0 s0 h0
  refine ⟨K0, fun k hk => ?_⟩
  unfold laws_eqBank.f
  simp only [e0 k (by omega), Option.bind_some]
  by_cases q0 : f0 = s0 <;> try simp only [q0, decide_true, decide_false, if_true, if_false, Bool.false_eq_true, beq_self_eq_true]
  by_cases q1 : f1 = s1 <;> try simp only [q1, decide_true, decide_false, if_true, if_false, Bool.false_eq_true, beq_self_eq_true]
  all_goals simp_all
theorem markBank_ev (f0 : List Bool) (f1 : Bool) (a : Int) (h0 : List.length f0 ≤ 1048576) : Ev (fun k => laws_markBank.f k f0 f1 a) ((mkB f0 (a)).1, (mkB f0 (a)).2) := Ev.bind (markBoolS_ev f0 (a) h0) (Ev.now _)
theorem szKeep_cases (f0 : Int) (f1 : List (List Int)) (f2 : Int) (a : Int) (h0 : 0 ≤ a) (ha : a ≤ 1048576) (g1 : goodIntSS f1) : ∃ t, Ev (fun k => laws_szKeep.f k f0 f1 f2 a) t ∧ (t < 0 ∨ (0 ≤ t ∧ t + (n2 f1 : Int) ≤ a)) := by
  obtain ⟨t, ht, hc⟩ := szIntSS_cases f1 a h0 ha g1
  refine ⟨if t < 0 then -1 else t, Ev.bind ht (by by_cases h : t < 0 <;> simp only [h, if_true, if_false] <;> exact Ev.now _), ?_⟩
  rcases hc with hc | ⟨hc, h2⟩
  · exact .inl (by rw [if_pos hc]; omega)
  · rw [if_neg (by omega)]; exact .inr ⟨hc, h2⟩
theorem toKeep_ev (f0 : Int) (f1 : List (List Int)) (f2 : Int) (h1 : n2 f1 ≤ 1048576) : Ev (fun k => laws_toKeep.f k f0 f1 f2) (f0, f1, f2) := Ev.bind (toIntSS_ev f1 h1) (Ev.now _)
theorem eqKeep_ev (f0 : Int) (f1 : List (List Int)) (f2 : Int) (s0 : Int) (s1 : List (List Int)) (s2 : Int) (h1 : n2 f1 ≤ 1048576) : Ev (fun k => laws_eqKeep.f k f0 f1 f2 s0 s1 s2) (decide ((f0, f1, f2) = (s0, s1, s2))) := by
  obtain ⟨K1, e1⟩ := eqIntSS_ev f1 s1 h1
  refine ⟨K1, fun k hk => ?_⟩
  unfold laws_eqKeep.f
  simp only [e1 k (by omega), Option.bind_some]
  by_cases q0 : f0 = s0 <;> try simp only [q0, decide_true, decide_false, if_true, if_false, Bool.false_eq_true, beq_self_eq_true]
  by_cases q1 : f1 = s1 <;> try simp only [q1, decide_true, decide_false, if_true, if_false, Bool.false_eq_true, beq_self_eq_true]
  by_cases q2 : f2 = s2 <;> try simp only [q2, decide_true, decide_false, if_true, if_false, Bool.false_eq_true, beq_self_eq_true]
  all_goals simp_all
theorem markKeep_ev (f0 : Int) (f1 : List (List Int)) (f2 : Int) (a : Int) (h1 : n2 f1 ≤ 1048576) : laws_markKeep.f f0 f1 f2 a = some ((mkSS f1 (a)).1, (mkSS f1 (a)).2) := rfl
end Go.Proofs.Ytmfofjloklafoaa.Pure

namespace Go.Proofs.Ytmfofjloklafoaa.Pure
open Go.RowKit Go.Proofs.Ytmfofjloklafoaa.C7 Go.Proofs.Ytmfofjloklafoaa.H Go.Proofs.YtmfofjloklafoaaW.PrintWords Go.Proofs.YtmfofjloklafoaaW.PrintLast Go.Proofs.YtmfofjloklafoaaW.PrintMore
set_option linter.unusedVariables false
set_option linter.unusedSimpArgs false
theorem in_eq (a b c : Int) : impl_in.f a b c = some (inB b c a) := by
  unfold impl_in.f inB
  by_cases h : b ≤ a <;> simp [h]
theorem l1In_eq (a b c : Int) : spec_l1In.f a b c = some (inB b c a) := by
  unfold spec_l1In.f inB
  by_cases h : b ≤ a <;> simp [h]
theorem areIn_eq (l : List Int) (a b c d : Int) : impl_areIn.f l a b c d = some (inB c d (l.length : Int) && l.all (inB a b)) := rfl
end Go.Proofs.Ytmfofjloklafoaa.Pure

namespace Go.Proofs.Ytmfofjloklafoaa.Pure
open Go.RowKit Go.Proofs.Ytmfofjloklafoaa.C7 Go.Proofs.Ytmfofjloklafoaa.H Go.Proofs.YtmfofjloklafoaaW.PrintWords Go.Proofs.YtmfofjloklafoaaW.PrintLast Go.Proofs.YtmfofjloklafoaaW.PrintMore
set_option linter.unusedVariables false
set_option linter.unusedSimpArgs false
def risF (p : Int) : List Int → Bool
  | [] => true
  | y :: r => decide (p < y) && risF y r
def risP : List Int → Bool
  | [] => true
  | x :: r => risF x r
theorem rd_mid1 (pre : List Int) (p y : Int) (r : List Int) : rd (pre ++ p :: y :: r) ((pre.length : Int) + 1) = y := by
  have h : ((pre.length : Int) + 1).toNat = pre.length + 1 := by omega
  simp [rd, h]
theorem lt_mid1 (pre : List Int) (p y : Int) (r : List Int) : (pre.length : Int) + 1 < ((pre ++ p :: y :: r).length : Int) := by simp; omega
theorem nlt_end1 (pre : List Int) (p : Int) : ¬ (pre.length : Int) + 1 < ((pre ++ p :: ([] : List Int)).length : Int) := by simp
theorem wr_mid1 (pre : List Int) (p y : Int) (r : List Int) (h : (pre ++ p :: y :: r).length ≤ 9223372036854775807) : wrap64 ((pre.length : Int) + 1 + 1) = ((pre ++ [p]).length : Int) + 1 := by
  simp only [List.length_append, List.length_cons] at h
  rw [wr_id (by omega) (by omega)]
  simp
theorem wr_pred (pre : List Int) (h : pre.length ≤ 9223372036854775806) : wrap64 ((pre.length : Int) + 1 - 1) = (pre.length : Int) := by
  rw [wr_id (by omega) (by omega)]
  omega
theorem rising_cat (pre : List Int) (p : Int) (r : List Int) : pre ++ p :: r = (pre ++ [p]) ++ r := by simp
theorem l1Rising_loop (lo hi : Int) : ∀ (r pre : List Int) (p : Int), (pre ++ p :: r).length ≤ 9223372036854775807 → Ev (fun k => spec_l1Rising.l0 k (pre ++ p :: r) lo hi (pre ++ p :: r) ((pre ++ p :: r).length : Int) ((pre.length : Int) + 1)) (r.all (inB lo hi) && risF p r) := by
  intro r
  induction r with
  | nil =>
    intro pre p hl
    refine Ev.step (f := fun _ => some true) (fun k => ?_) (Ev.now _)
    simp only [spec_l1Rising.l0]
    rw [if_neg (nlt_end1 pre p)]
  | cons y r ih =>
    intro pre p hl
    have hl' := hl
    simp only [List.length_append, List.length_cons] at hl'
    cases hy : inB lo hi y with
    | false =>
      refine Ev.step (f := fun _ => some false) (fun k => ?_) (ev_eq (Ev.now _) (by simp [hy]))
      simp only [spec_l1Rising.l0]
      rw [if_pos (lt_mid1 pre p y r), if_pos (by omega), if_pos (lt_mid1 pre p y r), rd_mid1, l1In_eq, hy, Option.bind_some, if_neg (by simp)]
    | true =>
      by_cases c : p < y
      · refine Ev.step (fun k => ?_) (ev_eq (ih (pre ++ [p]) y (by simpa using hl)) (by simp [risF, c, hy]))
        simp only [spec_l1Rising.l0]
        rw [if_pos (lt_mid1 pre p y r), if_pos (by omega), if_pos (lt_mid1 pre p y r), rd_mid1, l1In_eq, hy, Option.bind_some, if_pos rfl, if_pos (by omega), wr_pred pre (by omega), if_pos (zle _), if_pos (lt_mid pre p (y :: r)), rd_mid, if_neg (by omega), wr_mid1 pre p y r hl, rising_cat pre p (y :: r)]
      · refine Ev.step (f := fun _ => some false) (fun k => ?_) (ev_eq (Ev.now _) (by simp [risF, c]))
        simp only [spec_l1Rising.l0]
        rw [if_pos (lt_mid1 pre p y r), if_pos (by omega), if_pos (lt_mid1 pre p y r), rd_mid1, l1In_eq, hy, Option.bind_some, if_pos rfl, if_pos (by omega), wr_pred pre (by omega), if_pos (zle _), if_pos (lt_mid pre p (y :: r)), rd_mid, if_pos (by omega)]
theorem l1Rising_ev (l : List Int) (lo hi : Int) (hl : l.length ≤ 9223372036854775807) : Ev (fun k => spec_l1Rising.f k l lo hi) (l.all (inB lo hi) && risP l) := by
  cases l with
  | nil =>
    refine Ev.step (f := fun _ => some true) (fun k => ?_) (Ev.now _)
    simp [spec_l1Rising.f, spec_l1Rising.l0]
  | cons x r =>
    cases hx : inB lo hi x with
    | false =>
      refine Ev.step (f := fun _ => some false) (fun k => ?_) (ev_eq (Ev.now _) (by simp [hx]))
      simp only [spec_l1Rising.f, spec_l1Rising.l0]
      rw [if_pos (show (0 : Int) < ((x :: r).length : Int) by simp only [List.length_cons]; omega), if_pos (Int.le_refl _), if_pos (show (0 : Int) < ((x :: r).length : Int) by simp only [List.length_cons]; omega), show rd (x :: r) 0 = x from rfl, l1In_eq, hx, Option.bind_some, if_neg (by simp)]
    | true =>
      refine Ev.step (fun k => ?_) (ev_eq (l1Rising_loop lo hi r [] x hl) (by simp [hx, risP]))
      simp only [spec_l1Rising.f, spec_l1Rising.l0]
      rw [if_pos (show (0 : Int) < ((x :: r).length : Int) by simp only [List.length_cons]; omega), if_pos (Int.le_refl _), if_pos (show (0 : Int) < ((x :: r).length : Int) by simp only [List.length_cons]; omega), show rd (x :: r) 0 = x from rfl, l1In_eq, hx, Option.bind_some, if_pos rfl, if_neg (by omega), show wrap64 (0 + 1) = ((([] : List Int).length : Int) + 1) from wr_id (by omega) (by omega)]
      rfl
end Go.Proofs.Ytmfofjloklafoaa.Pure

namespace Go.Proofs.Ytmfofjloklafoaa.Pure
open Go.RowKit Go.Proofs.Ytmfofjloklafoaa.C7 Go.Proofs.Ytmfofjloklafoaa.H Go.Proofs.YtmfofjloklafoaaW.PrintWords Go.Proofs.YtmfofjloklafoaaW.PrintLast Go.Proofs.YtmfofjloklafoaaW.PrintMore
set_option linter.unusedVariables false
set_option linter.unusedSimpArgs false
def mv (v : Bool) : List Int → List Bool → List Bool
  | [], o => o
  | x :: r, o => mv v r (o.set x.toNat v)
theorem mv_len (v : Bool) (t : List Int) : ∀ o : List Bool, (mv v t o).length = o.length := by
  induction t with
  | nil => intro o; rfl
  | cons x r ih => intro o; simp only [mv]; rw [ih]; simp
theorem moved_loop (v : Bool) : ∀ (r pre : List Int) (o : List Bool), (pre ++ r).length ≤ 9223372036854775807 → (∀ x ∈ r, 0 ≤ x ∧ x < (o.length : Int)) → Ev (fun k => impl_State_moved.l0 k (pre ++ r) ((pre ++ r).length : Int) (pre.length : Int) o v) (mv v r o, v) := by
  intro r
  induction r with
  | nil =>
    intro pre o hl hi
    refine Ev.step (f := fun _ => some _) (fun k => ?_) (Ev.now _)
    simp only [impl_State_moved.l0]
    rw [if_neg (nlt_end pre)]
    rfl
  | cons x r ih =>
    intro pre o hl hi
    have hx := hi x (by simp)
    refine Ev.step (fun k => ?_) (ih (pre ++ [x]) (o.set x.toNat v) (by simpa using hl) (fun y hy => by have := hi y (by simp [hy]); simpa using this))
    simp only [impl_State_moved.l0]
    rw [if_pos (lt_mid pre x r), if_pos (zle _), if_pos (lt_mid pre x r), rd_mid, if_pos hx.1, if_pos hx.2, wr_mid pre x r hl, app_mid pre x r]
theorem moved_ev (st : List Bool) (b : Bool) (t : List Int) (hs : st.length ≤ 1048576) (ht : t.length ≤ 1048576) (hi : ∀ x ∈ t, 0 ≤ x ∧ x < (st.length : Int)) : Ev (fun k => impl_State_moved.f k st b t) (mv (!b) t st, !b) := by
  unfold impl_State_moved.f
  refine Ev.bind (a := st) (ev_some (by unfold slices_Clone_bool_bool.f; rw [if_pos (by omega)])) ?_
  exact moved_loop (!b) t [] st (by simp; omega) hi
end Go.Proofs.Ytmfofjloklafoaa.Pure

namespace Go.Proofs.Ytmfofjloklafoaa.Pure
open Go.RowKit Go.Proofs.Ytmfofjloklafoaa.C7 Go.Proofs.Ytmfofjloklafoaa.H Go.Proofs.YtmfofjloklafoaaW.PrintWords Go.Proofs.YtmfofjloklafoaaW.PrintLast Go.Proofs.YtmfofjloklafoaaW.PrintMore
set_option linter.unusedVariables false
set_option linter.unusedSimpArgs false
end Go.Proofs.Ytmfofjloklafoaa.Pure

namespace Go.Proofs.Ytmfofjloklafoaa.Pure
open Go.RowKit Go.Proofs.Ytmfofjloklafoaa.C7 Go.Proofs.Ytmfofjloklafoaa.H Go.Proofs.YtmfofjloklafoaaW.PrintWords Go.Proofs.YtmfofjloklafoaaW.PrintLast Go.Proofs.YtmfofjloklafoaaW.PrintMore
set_option linter.unusedVariables false
set_option linter.unusedSimpArgs false
end Go.Proofs.Ytmfofjloklafoaa.Pure

namespace Go.Proofs.Ytmfofjloklafoaa.Pure
open Go.RowKit Go.Proofs.Ytmfofjloklafoaa.C7 Go.Proofs.Ytmfofjloklafoaa.H Go.Proofs.YtmfofjloklafoaaW.PrintWords Go.Proofs.YtmfofjloklafoaaW.PrintLast Go.Proofs.YtmfofjloklafoaaW.PrintMore
set_option linter.unusedVariables false
set_option linter.unusedSimpArgs false
def sideP (b : Bool) : List Bool → Nat → List Int
  | [], _ => []
  | x :: r, i => if x == b then (i : Int) :: sideP b r (i + 1) else sideP b r (i + 1)
theorem sideP_len (b : Bool) : ∀ (r : List Bool) (i : Nat), (sideP b r i).length ≤ r.length := by
  intro r
  induction r with
  | nil => intro i; simp [sideP]
  | cons x r ih =>
    intro i
    have := ih (i + 1)
    simp only [sideP]
    split <;> simp only [List.length_cons] <;> omega
theorem side_loop (b : Bool) : ∀ (r pre : List Bool) (acc : List Int), (pre ++ r).length ≤ 1048576 → acc.length + r.length ≤ 1048576 → Ev (fun k => impl_State_side.l0 k b acc (pre ++ r) ((pre ++ r).length : Int) (pre.length : Int)) (acc ++ sideP b r pre.length) := by
  intro r
  induction r with
  | nil =>
    intro pre acc hl ha
    refine Ev.step (f := fun _ => some _) (fun k => ?_) (Ev.now _)
    simp only [impl_State_side.l0]
    rw [if_neg (nlt_end pre)]
    simp [sideP]
  | cons x r ih =>
    intro pre acc hl ha
    simp only [List.length_cons] at ha
    cases hx : x == b with
    | true =>
      refine Ev.step (fun k => ?_) (ev_eq (ih (pre ++ [x]) (acc ++ [(pre.length : Int)]) (by simpa using hl) (by simp; omega)) (by simp [sideP, hx]))
      simp only [impl_State_side.l0]
      rw [if_pos (lt_mid pre x r), if_pos (zle _), if_pos (lt_mid pre x r), rdOf_mid, hx, if_pos rfl, if_pos (by omega), wr_mid pre x r (by omega), app_mid pre x r]
    | false =>
      refine Ev.step (fun k => ?_) (ev_eq (ih (pre ++ [x]) acc (by simpa using hl) (by omega)) (by simp [sideP, hx]))
      simp only [impl_State_side.l0]
      rw [if_pos (lt_mid pre x r), if_pos (zle _), if_pos (lt_mid pre x r), rdOf_mid, hx, if_neg (by simp), wr_mid pre x r (by omega), app_mid pre x r]
theorem side_ev (st : List Bool) (t b : Bool) (hs : st.length ≤ 1048576) : Ev (fun k => impl_State_side.f k st t b) (sideP b st 0) := side_loop b st [] [] (by simpa using hs) (by simpa using hs)
def begP : List Int → List (List Int)
  | [] => []
  | x :: l => [x :: l]
theorem begP_len (l : List Int) : (begP l).length ≤ 1 := by cases l <;> simp [begP]
theorem l1Own_eq (l : List Int) (h : l.length ≤ 1048576) : spec_l1Own.f l = some l := by
  unfold spec_l1Own.f
  rw [Option.bind_some, if_pos (by simp; omega)]
  simp
theorem grp_loop (lo : Nat) (m : Int) (ps : List Int) (hp : ps.length ≤ 20) (l : List Int) (hl : l.length ≤ 20) (hm : (l.length : Int) < m)
    (IH : ∀ (from_ : Nat) (l' : List Int), lo < from_ → from_ ≤ ps.length → l'.length = l.length + 1 → Ev (fun k => spec_paGroups.f k ps l' (from_ : Int) m) (begP l' ++ grpsF m (ps.drop from_) l')) :
    ∀ (d i : Nat) (acc : List (List Int)), ps.length - i = d → i ≤ ps.length → lo ≤ i → acc.length + 2 ^ d ≤ 4194304 → Ev (fun k => spec_paGroups.l0 k ps l m acc (i : Int)) (acc ++ grpsF m (ps.drop i) l) := by
  intro d
  induction d with
  | zero =>
    intro i acc hd hi hlo ha
    have : i = ps.length := by omega
    subst this
    refine Ev.step (f := fun _ => some _) (fun k => ?_) (Ev.now _)
    simp only [spec_paGroups.l0]
    rw [if_neg (by omega)]
    simp [grpsF]
  | succ d ih =>
    intro i acc hd hi hlo ha
    have hlt : i < ps.length := by omega
    have hdr : ps.drop i = rd ps (i : Nat) :: ps.drop (i + 1) := by
      rw [List.drop_eq_getElem_cons hlt]
      simp [rd, List.getD_eq_getElem?_getD, List.getElem?_eq_getElem hlt]
    have hg := IH (i + 1) (l ++ [rd ps (i : Nat)]) (by omega) (by omega) (by simp)
    have hlen : (begP (l ++ [rd ps (i : Nat)]) ++ grpsF m (ps.drop (i + 1)) (l ++ [rd ps (i : Nat)])).length ≤ 2 ^ d := by
      have h1 := grpsF_len m (ps.drop (i + 1)) (l ++ [rd ps (i : Nat)])
      have h2 := begP_len (l ++ [rd ps (i : Nat)])
      rw [List.length_drop, show ps.length - (i + 1) = d by omega] at h1
      rw [List.length_append]
      omega
    rw [Nat.pow_succ] at ha
    have hb : begP (l ++ [rd ps (i : Nat)]) = [l ++ [rd ps (i : Nat)]] := by cases l <;> rfl
    have he : acc ++ grpsF m (ps.drop i) l = (acc ++ (begP (l ++ [rd ps (i : Nat)]) ++ grpsF m (ps.drop (i + 1)) (l ++ [rd ps (i : Nat)]))) ++ grpsF m (ps.drop (i + 1)) l := by
      rw [hdr, grpsF, if_pos hm, hb]
      simp
    rw [he]
    refine Ev.step (f := fun k => (spec_paGroups.f k ps (l ++ [rd ps (i : Nat)]) ((i + 1 : Nat) : Int) m).bind fun t => (if acc.length + t.length < 5864062014805 then (spec_paGroups.l0 k ps l m (acc ++ t) ((i + 1 : Nat) : Int)) else (none))) (fun k => ?_) (Ev.bind hg ?_)
    · simp only [spec_paGroups.l0]
      rw [if_pos (by omega), show spec_l1Own.f l = some l from l1Own_eq l (by omega), Option.bind_some, if_pos (zle _), Option.bind_some, if_pos (by simp; omega), show wrap64 ((i : Int) + 1) = ((i + 1 : Nat) : Int) from wr_id (by omega) (by omega)]
    · try dsimp only
      have hc : acc.length + (begP (l ++ [rd ps (i : Nat)]) ++ grpsF m (ps.drop (i + 1)) (l ++ [rd ps (i : Nat)])).length < 5864062014805 := by
        have : 0 < 2 ^ d := Nat.pow_pos (by omega)
        omega
      simp only [if_pos hc]
      exact ih (i + 1) _ (by omega) (by omega) (by omega) (by rw [List.length_append]; omega)
theorem paGroups_ev (m : Int) (ps : List Int) (hp : ps.length ≤ 20) : ∀ (d from_ : Nat) (l : List Int), ps.length - from_ = d → from_ ≤ ps.length → l.length + d ≤ 20 → (l.length : Int) ≤ m → Ev (fun k => spec_paGroups.f k ps l (from_ : Int) m) (begP l ++ grpsF m (ps.drop from_) l) := by
  intro d
  induction d using Nat.strongRecOn with
  | ind d ih =>
  intro from_ l hd hf hl hm
  have hj : ∀ acc : List (List Int), acc.length ≤ 1 → Ev (fun k => spec_paGroups.j0 k ps l (from_ : Int) m acc) (acc ++ grpsF m (ps.drop from_) l) := by
    intro acc ha
    by_cases hc : (l.length : Int) = m
    · refine Ev.step (f := fun _ => some acc) (fun k => ?_) (ev_eq (Ev.now _) ?_)
      · simp only [spec_paGroups.j0]
        rw [if_pos hc]
      · cases ps.drop from_ with
        | nil => simp [grpsF]
        | cons x r => rw [grpsF, if_neg (by omega)]; simp
    · refine Ev.step (f := fun k => spec_paGroups.l0 k ps l m acc (from_ : Int)) (fun k => ?_) ?_
      · simp only [spec_paGroups.j0]
        rw [if_neg hc]
      · refine grp_loop from_ m ps hp l (by omega) (by omega) (fun f' l' h0 h1 h2 => ?_) d from_ acc hd hf (Nat.le_refl _) ?_
        · exact ih (ps.length - f') (by omega) f' l' rfl h1 (by omega) (by omega)
        · have : 2 ^ d ≤ 2 ^ 20 := Nat.pow_le_pow_right (by omega) (by omega)
          omega
  cases l with
  | nil =>
    refine Ev.step (f := fun k => spec_paGroups.j0 k ps [] (from_ : Int) m []) (fun k => ?_) (hj [] (by simp))
    simp [spec_paGroups.f]
  | cons x l =>
    refine Ev.step (f := fun k => spec_paGroups.j0 k ps (x :: l) (from_ : Int) m [x :: l]) (fun k => ?_) (hj [x :: l] (by simp))
    simp only [spec_paGroups.f]
    rw [if_pos (by simp only [List.length_cons]; omega), show spec_l1Own.f (x :: l) = some (x :: l) from l1Own_eq _ (by omega), Option.bind_some, Option.bind_some, if_pos (by simp)]
    simp
theorem szSum_le (B : Nat) : ∀ l : List (List Int), (∀ x ∈ l, x.length ≤ B) → szSum List.length l ≤ l.length * B := by
  intro l
  induction l with
  | nil => intro _; simp [szSum]
  | cons x l ih =>
    intro h
    have h1 := h x (by simp)
    have h2 := ih (fun y hy => h y (by simp [hy]))
    simp only [szSum, List.length_cons, Nat.add_mul, Nat.one_mul]
    omega
theorem n2_le (B : Nat) (l : List (List Int)) (h : ∀ x ∈ l, x.length ≤ B) : n2 l ≤ l.length + l.length * B := by
  have := szSum_le B l h
  simp only [n2]
  omega
def tripsP (s : Int) (st : List Bool) (b : Bool) : List (List Int) := grpsF s (sideP b st 0) []
theorem grpsF_elem (m : Int) : ∀ (r l : List Int), ∀ g ∈ grpsF m r l, g.length ≤ l.length + r.length := by
  intro r
  induction r with
  | nil => intro l g hg; simp [grpsF] at hg
  | cons x r ih =>
    intro l g hg
    simp only [grpsF] at hg
    split at hg
    · rcases List.mem_cons.1 hg with rfl | hg
      · simp
      · rcases List.mem_append.1 hg with hg | hg
        · have := ih _ g hg; simp only [List.length_append, List.length_cons, List.length_nil] at this ⊢; omega
        · have := ih _ g hg; simp only [List.length_cons]; omega
    · cases hg
end Go.Proofs.Ytmfofjloklafoaa.Pure

namespace Go.Proofs.Ytmfofjloklafoaa.Pure
open Go.RowKit Go.Proofs.Ytmfofjloklafoaa.C7 Go.Proofs.Ytmfofjloklafoaa.H Go.Proofs.YtmfofjloklafoaaW.PrintWords Go.Proofs.YtmfofjloklafoaaW.PrintLast Go.Proofs.YtmfofjloklafoaaW.PrintMore
set_option linter.unusedVariables false
set_option linter.unusedSimpArgs false
theorem grpsF_sub (m : Int) : ∀ (r l : List Int), ∀ g ∈ grpsF m r l, ∃ t, g = l ++ t ∧ t.Sublist r ∧ t ≠ [] := by
  intro r
  induction r with
  | nil => intro l g hg; simp [grpsF] at hg
  | cons x r ih =>
    intro l g hg
    simp only [grpsF] at hg
    split at hg
    · rcases List.mem_cons.1 hg with rfl | hg
      · exact ⟨[x], rfl, by simp, by simp⟩
      · rcases List.mem_append.1 hg with hg | hg
        · obtain ⟨t, rfl, h1, h2⟩ := ih _ g hg
          exact ⟨x :: t, by simp, h1.cons_cons x, by simp⟩
        · obtain ⟨t, rfl, h1, h2⟩ := ih _ g hg
          exact ⟨t, rfl, h1.cons x, h2⟩
    · cases hg
theorem sideP_in (b : Bool) : ∀ (r : List Bool) (i : Nat), ∀ x ∈ sideP b r i, (i : Int) ≤ x ∧ x < (i : Int) + r.length ∧ r.getD (x.toNat - i) false = b := by
  intro r
  induction r with
  | nil => intro i x hx; simp [sideP] at hx
  | cons y r ih =>
    intro i x hx
    have hrec : x ∈ sideP b r (i + 1) → (i : Int) ≤ x ∧ x < (i : Int) + (y :: r).length ∧ (y :: r).getD (x.toNat - i) false = b := by
      intro hx
      obtain ⟨h1, h2, h3⟩ := ih (i + 1) x hx
      refine ⟨by omega, by simp only [List.length_cons]; omega, ?_⟩
      have : x.toNat - i = (x.toNat - (i + 1)) + 1 := by omega
      rw [this, List.getD_cons_succ]
      exact h3
    simp only [sideP] at hx
    split at hx
    · rename_i hy
      rcases List.mem_cons.1 hx with rfl | hx
      · refine ⟨Int.le_refl _, by simp only [List.length_cons]; omega, ?_⟩
        have : ((i : Int)).toNat - i = 0 := by omega
        rw [this, List.getD_cons_zero]
        simpa using hy
      · exact hrec hx
    · exact hrec hx
theorem sideP_lt (b : Bool) : ∀ (r : List Bool) (i : Nat), (sideP b r i).Pairwise (· < ·) := by
  intro r
  induction r with
  | nil => intro i; simp [sideP]
  | cons y r ih =>
    intro i
    simp only [sideP]
    split
    · rw [List.pairwise_cons]
      exact ⟨fun x hx => by have := (sideP_in b r (i + 1) x hx).1; omega, ih (i + 1)⟩
    · exact ih (i + 1)
theorem risF_of (p : Int) : ∀ r : List Int, (p :: r).Pairwise (· < ·) → risF p r = true := by
  intro r
  induction r generalizing p with
  | nil => intro _; rfl
  | cons y r ih =>
    intro h
    rw [List.pairwise_cons] at h
    simp only [risF, Bool.and_eq_true, decide_eq_true_eq]
    exact ⟨h.1 y (by simp), ih y h.2⟩
theorem risP_of {r : List Int} (h : r.Pairwise (· < ·)) : risP r = true := by
  cases r with
  | nil => rfl
  | cons x r => exact risF_of x r h
theorem group_of {m : Int} {b : Bool} {st : List Bool} {g : List Int} (hg : g ∈ grpsF m (sideP b st 0) []) : (∀ x ∈ g, 0 ≤ x ∧ x < (st.length : Int) ∧ rdOf false st x = b) ∧ risP g = true ∧ g ≠ [] := by
  obtain ⟨t, ht, h1, h2⟩ := grpsF_sub m _ _ g hg
  rw [List.nil_append] at ht
  subst ht
  refine ⟨fun x hx => ?_, risP_of (List.Pairwise.sublist h1 (sideP_lt b st 0)), h2⟩
  obtain ⟨p, q, r⟩ := sideP_in b st 0 x (h1.subset hx)
  exact ⟨by simpa using p, by simpa using q, by simpa [rdOf] using r⟩
end Go.Proofs.Ytmfofjloklafoaa.Pure

namespace Go.Proofs.Ytmfofjloklafoaa.Pure
open Go.RowKit Go.Proofs.Ytmfofjloklafoaa.C7 Go.Proofs.Ytmfofjloklafoaa.H Go.Proofs.YtmfofjloklafoaaW.PrintWords Go.Proofs.YtmfofjloklafoaaW.PrintLast Go.Proofs.YtmfofjloklafoaaW.PrintMore
set_option linter.unusedVariables false
set_option linter.unusedSimpArgs false
end Go.Proofs.Ytmfofjloklafoaa.Pure

namespace Go.Proofs.Ytmfofjloklafoaa.Pure
open Go.RowKit Go.Proofs.Ytmfofjloklafoaa.C7 Go.Proofs.Ytmfofjloklafoaa.H Go.Proofs.YtmfofjloklafoaaW.PrintWords Go.Proofs.YtmfofjloklafoaaW.PrintLast Go.Proofs.YtmfofjloklafoaaW.PrintMore
set_option linter.unusedVariables false
set_option linter.unusedSimpArgs false
theorem grpsF_mem (m : Int) : ∀ (r l g : List Int), g ∈ grpsF m r l ↔ ∃ t, t ≠ [] ∧ t.Sublist r ∧ g = l ++ t ∧ ((l.length + t.length : Nat) : Int) ≤ m := by
  intro r
  induction r with
  | nil =>
    intro l g
    simp only [grpsF, List.not_mem_nil, false_iff]
    rintro ⟨t, h1, h2, _⟩
    exact h1 (List.eq_nil_of_sublist_nil h2)
  | cons x r ih =>
    intro l g
    simp only [grpsF]
    split
    · rename_i hl
      simp only [List.mem_cons, List.mem_append, ih]
      constructor
      · rintro (rfl | ⟨t, h1, h2, rfl, h3⟩ | ⟨t, h1, h2, rfl, h3⟩)
        · exact ⟨[x], by simp, by simp, rfl, by simp; omega⟩
        · exact ⟨x :: t, by simp, h2.cons_cons x, by simp, by simp only [List.length_append, List.length_cons, List.length_nil] at h3 ⊢; omega⟩
        · exact ⟨t, h1, h2.cons x, rfl, h3⟩
      · rintro ⟨t, h1, h2, rfl, h3⟩
        cases h2 with
        | cons _ h2 => exact .inr (.inr ⟨t, h1, h2, rfl, h3⟩)
        | @cons_cons t' _ _ h2 =>
          by_cases ht : t' = []
          · subst ht; exact .inl rfl
          · exact .inr (.inl ⟨t', ht, h2, by simp, by simp only [List.length_append, List.length_cons, List.length_nil] at h3 ⊢; omega⟩)
    · rename_i hl
      simp only [List.not_mem_nil, false_iff]
      rintro ⟨t, h1, h2, rfl, h3⟩
      have : 0 < t.length := List.length_pos_iff.2 h1
      omega
theorem sideP_mem (b : Bool) : ∀ (r : List Bool) (i : Nat) (x : Int), x ∈ sideP b r i ↔ ∃ j : Nat, x = ((i + j : Nat) : Int) ∧ r[j]? = some b := by
  intro r
  induction r with
  | nil => intro i x; simp [sideP]
  | cons y r ih =>
    intro i x
    have hiff : (∃ j : Nat, x = ((i + j : Nat) : Int) ∧ (y :: r)[j]? = some b) ↔ (x = (i : Int) ∧ y = b) ∨ ∃ j : Nat, x = ((i + 1 + j : Nat) : Int) ∧ r[j]? = some b := by
      constructor
      · rintro ⟨j, h1, h2⟩
        cases j with
        | zero => exact .inl ⟨by simpa using h1, by simpa using h2⟩
        | succ j => exact .inr ⟨j, by rw [h1]; congr 1; omega, by simpa using h2⟩
      · rintro (⟨h1, h2⟩ | ⟨j, h1, h2⟩)
        · exact ⟨0, by simpa using h1, by simpa using h2⟩
        · exact ⟨j + 1, by rw [h1]; congr 1; omega, by simpa using h2⟩
    rw [hiff, ← ih (i + 1) x]
    simp only [sideP]
    by_cases hy : y = b
    · rw [if_pos (by simpa using hy), List.mem_cons]
      simp [hy]
    · rw [if_neg (by simpa using hy)]
      simp [hy]
theorem sideP_asc (b : Bool) : ∀ (r : List Bool) (i : Nat), (sideP b r i).Pairwise (· < ·) := by
  intro r
  induction r with
  | nil => intro i; simp [sideP]
  | cons y r ih =>
    intro i
    simp only [sideP]
    split
    · refine List.pairwise_cons.2 ⟨fun x hx => ?_, ih _⟩
      obtain ⟨j, rfl, _⟩ := (sideP_mem b r (i + 1) x).1 hx
      omega
    · exact ih _
theorem sub_asc : ∀ (L t : List Int), L.Pairwise (· < ·) → t.Pairwise (· < ·) → (∀ x ∈ t, x ∈ L) → t.Sublist L := by
  intro L
  induction L with
  | nil =>
    intro t _ _ h
    cases t with
    | nil => exact List.Sublist.refl _
    | cons x t => exact absurd (h x (by simp)) (by simp)
  | cons y L ih =>
    intro t hL ht h
    cases t with
    | nil => exact List.nil_sublist _
    | cons x t =>
      rw [List.pairwise_cons] at hL ht
      by_cases e : x = y
      · subst e
        refine (ih t hL.2 ht.2 fun z hz => ?_).cons_cons x
        rcases List.mem_cons.1 (h z (by simp [hz])) with rfl | q
        · exact absurd (ht.1 z hz) (by omega)
        · exact q
      · have hx : x ∈ L := by
          rcases List.mem_cons.1 (h x (by simp)) with q | q
          · exact absurd q e
          · exact q
        have hyx := hL.1 x hx
        refine (ih (x :: t) hL.2 (List.pairwise_cons.2 ht) fun z hz => ?_).cons y
        rcases List.mem_cons.1 (h z hz) with rfl | q
        · rcases List.mem_cons.1 hz with rfl | hz
          · exact absurd rfl e
          · have := ht.1 z hz; omega
        · exact q
theorem mv_get (v : Bool) : ∀ (t : List Int) (o : List Bool) (j : Nat), (∀ x ∈ t, 0 ≤ x ∧ x < (o.length : Int)) → (mv v t o)[j]? = if (j : Int) ∈ t then some v else o[j]? := by
  intro t
  induction t with
  | nil => intro o j _; simp [mv]
  | cons x t ih =>
    intro o j h
    have hx := h x (by simp)
    simp only [mv]
    rw [ih (o.set x.toNat v) j (fun y hy => by simpa using h y (by simp [hy])), List.getElem?_set]
    by_cases h1 : (j : Int) ∈ t
    · rw [if_pos h1, if_pos (by simp [h1])]
    · rw [if_neg h1]
      by_cases h2 : x.toNat = j
      · rw [if_pos h2, if_pos (by omega), if_pos (by simp; left; omega)]
      · rw [if_neg h2, if_neg (by simp only [List.mem_cons, not_or]; exact ⟨by omega, h1⟩)]
theorem tripsP_mem {m : Int} {ov : List Bool} {tr : Bool} {t : List Int} : t ∈ tripsP m ov tr ↔ t ≠ [] ∧ (t.length : Int) ≤ m ∧ t.Pairwise (· < ·) ∧ ∀ x ∈ t, ∃ j : Nat, x = (j : Int) ∧ ov[j]? = some tr := by
  unfold tripsP
  rw [grpsF_mem]
  constructor
  · rintro ⟨t', h1, h2, e, h3⟩
    have e : t = t' := e
    subst e
    refine ⟨h1, by simpa using h3, (sideP_asc tr ov 0).sublist h2, fun x hx => ?_⟩
    obtain ⟨j, hj, h⟩ := (sideP_mem tr ov 0 x).1 (h2.subset hx)
    exact ⟨j, by simpa using hj, h⟩
  · rintro ⟨h1, h2, h3, h4⟩
    refine ⟨t, h1, sub_asc _ _ (sideP_asc tr ov 0) h3 (fun x hx => ?_), rfl, by simpa using h2⟩
    obtain ⟨j, rfl, h⟩ := h4 x hx
    exact (sideP_mem tr ov 0 _).2 ⟨j, by simp, h⟩
theorem trip_in {m : Int} {ov : List Bool} {tr : Bool} {t : List Int} (h : t ∈ tripsP m ov tr) : ∀ x ∈ t, 0 ≤ x ∧ x < (ov.length : Int) ∧ rdOf false ov x = tr := by
  intro x hx
  obtain ⟨j, rfl, hj⟩ := (tripsP_mem.1 h).2.2.2 x hx
  have := (List.getElem?_eq_some_iff.1 hj).1
  exact ⟨by omega, by omega, by simp [rdOf, List.getD_eq_getElem?_getD, hj]⟩
theorem mv_back {m : Int} {ov : List Bool} {tr : Bool} {t : List Int} (h : t ∈ tripsP m ov tr) : mv tr t (mv (!tr) t ov) = ov := by
  have hi := trip_in h
  have h4 := (tripsP_mem.1 h).2.2.2
  apply List.ext_getElem?
  intro j
  rw [mv_get tr t _ j (fun x hx => by rw [mv_len]; exact ⟨(hi x hx).1, (hi x hx).2.1⟩), mv_get (!tr) t ov j (fun x hx => ⟨(hi x hx).1, (hi x hx).2.1⟩)]
  by_cases hj : (j : Int) ∈ t
  · rw [if_pos hj]
    obtain ⟨i, hi2, hv⟩ := h4 _ hj
    have : j = i := by omega
    subst this
    exact hv.symm
  · rw [if_neg hj, if_neg hj]
theorem trip_back {m : Int} {ov : List Bool} {tr : Bool} {t : List Int} (h : t ∈ tripsP m ov tr) : t ∈ tripsP m (mv (!tr) t ov) (!tr) := by
  have hi := trip_in h
  obtain ⟨h1, h2, h3, h4⟩ := tripsP_mem.1 h
  refine tripsP_mem.2 ⟨h1, h2, h3, fun x hx => ?_⟩
  obtain ⟨j, rfl, hj⟩ := h4 x hx
  exact ⟨j, rfl, by rw [mv_get (!tr) t ov j (fun x hx => ⟨(hi x hx).1, (hi x hx).2.1⟩), if_pos hx]⟩
end Go.Proofs.Ytmfofjloklafoaa.Pure

namespace Go.Proofs.Ytmfofjloklafoaa.Pure
open Go.RowKit Go.Proofs.Ytmfofjloklafoaa.C7 Go.Proofs.Ytmfofjloklafoaa.H Go.Proofs.YtmfofjloklafoaaW.PrintWords Go.Proofs.YtmfofjloklafoaaW.PrintLast Go.Proofs.YtmfofjloklafoaaW.PrintMore
set_option linter.unusedVariables false
set_option linter.unusedSimpArgs false
theorem rdL2_midK (pre : List (List Int)) (x : List Int) (r : List (List Int)) : rd_L1 (pre ++ x :: r) (pre.length : Int) = x := rdOf_mid [] pre x r
theorem rdL2_prevK (pre : List (List Int)) (q x : List Int) (r : List (List Int)) : rd_L1 ((pre ++ [q]) ++ x :: r) (((pre ++ [q]).length : Int) - 1) = q := by
  rw [List.append_assoc, show (((pre ++ [q]).length : Int) - 1) = (pre.length : Int) by simp]
  exact rdOf_mid [] pre q (x :: r)
def dOk (n : Int) (d : List Int) : Bool := decide (d.length = 2) && (d.all (inB 0 (n - 1)) && risP d)
def bef (a b : List Int) : Bool := decide (rd a 0 < rd b 0) || (decide (rd a 0 = rd b 0) && decide (rd a 1 < rd b 1))
def pvB : Option (List Int) → List Int → Bool
  | none, _ => true
  | some q, d => bef q d
def ksB (n : Int) : Option (List Int) → List (List Int) → Bool
  | _, [] => true
  | p, d :: r => dOk n d && (pvB p d && ksB n (some d) r)
def goodK (n : Int) (l : List (List Int)) (m : Int) : Bool := inB 0 8 n && (inB 0 8 m && ksB n none l)
theorem len2 {d : List Int} (h : d.length = 2) : ∃ a b, d = [a, b] := by
  match d, h with
  | [a, b], _ => exact ⟨a, b, rfl⟩
theorem dOk_two {n : Int} {d : List Int} (h : dOk n d = true) : ∃ a b, d = [a, b] ∧ 0 ≤ a ∧ a < b ∧ b < n := by
  unfold dOk at h
  simp only [Bool.and_eq_true, decide_eq_true_eq] at h
  obtain ⟨h1, h2, h3⟩ := h
  obtain ⟨a, b, rfl⟩ := len2 h1
  simp only [List.all_cons, List.all_nil, Bool.and_eq_true, inB, decide_eq_true_eq, risP, risF] at h2 h3
  exact ⟨a, b, rfl, by omega, by omega, by omega⟩
theorem ksB_all {n : Int} : ∀ (l : List (List Int)) (p : Option (List Int)), ksB n p l = true → ∀ d ∈ l, dOk n d = true := by
  intro l
  induction l with
  | nil => intro p _ d hd; cases hd
  | cons x l ih =>
    intro p h d hd
    simp only [ksB, Bool.and_eq_true] at h
    rcases List.mem_cons.1 hd with rfl | hd
    · exact h.1
    · exact ih _ h.2.2 d hd
theorem cmp_val (a b : Int) : cmp_Compare_int.f a b = some (if a < b then -1 else if a > b then 1 else 0) := by
  unfold cmp_Compare_int.f cmp_isNaN_int.f
  by_cases h1 : a < b
  · simp [h1]
  · by_cases h2 : a > b
    · simp [h1, h2]
    · simp [h1, h2]
theorem compare2_ev (a b e f : Int) : ∃ c, Ev (fun k => slices_Compare_int_int.f k [a, b] [e, f]) c ∧ (c ≥ 0 ↔ bef [a, b] [e, f] = false) := by
  have w1 : wrap64 1 = 1 := wr_id (by omega) (by omega)
  have w2 : wrap64 2 = 2 := wr_id (by omega) (by omega)
  unfold slices_Compare_int_int.f
  have r0 : rd [a, b] 0 = a := rfl
  have r1 : rd [a, b] 1 = b := rfl
  have s0 : rd [e, f] 0 = e := rfl
  have s1 : rd [e, f] 1 = f := rfl
  have l1 : (([a, b] : List Int).length : Int) = 2 := rfl
  have l2 : (([e, f] : List Int).length : Int) = 2 := rfl
  unfold bef
  rw [r0, r1, s0, s1]
  by_cases h1 : a = e
  · subst h1
    by_cases h2 : b = f
    · subst h2
      refine ⟨0, ?_, by simp⟩
      refine Ev.step (fun k => slices_Compare_int_int.l0.eq_2 ..) ?_
      simp [l1, cmp_val, w1, r0, s0]
      refine Ev.step (fun k => slices_Compare_int_int.l0.eq_2 ..) ?_
      simp [l1, cmp_val, w2, r1, s1]
      refine Ev.step (fun k => slices_Compare_int_int.l0.eq_2 ..) ?_
      simp [l1]
      exact Ev.now _
    · refine ⟨if b < f then -1 else 1, ?_, ?_⟩
      · refine Ev.step (fun k => slices_Compare_int_int.l0.eq_2 ..) ?_
        simp [l1, l2, cmp_val, w1, r0, s0]
        refine Ev.step (fun k => slices_Compare_int_int.l0.eq_2 ..) ?_
        by_cases h3 : b < f
        · simp [l1, l2, cmp_val, r1, s1, h3]
          exact Ev.now _
        · have h4 : f < b := by omega
          simp [l1, l2, cmp_val, r1, s1, h3, h4]
          exact Ev.now _
      · by_cases h3 : b < f
        · simp [h3]
        · simp [h3]
  · refine ⟨if a < e then -1 else 1, ?_, ?_⟩
    · refine Ev.step (fun k => slices_Compare_int_int.l0.eq_2 ..) ?_
      by_cases h3 : a < e
      · simp [l1, l2, cmp_val, r0, s0, h3]
        exact Ev.now _
      · have h4 : e < a := by omega
        simp [l1, l2, cmp_val, r0, s0, h3, h4]
        exact Ev.now _
    · by_cases h3 : a < e
      · simp [h3]
      · simp [h3, h1]
def PrevK (p : Option (List Int)) (pre : List (List Int)) : Prop := (p = none ∧ pre = []) ∨ ∃ pre' q, p = some q ∧ pre = pre' ++ [q] ∧ q.length = 2
theorem keBefore_val {q d : List Int} (hq : q.length = 2) (hd : d.length = 2) : spec_keBefore.f q d = some (bef q d) := by
  unfold spec_keBefore.f bef
  rw [hq, hd]
  by_cases h1 : rd q 0 < rd d 0
  · simp [h1]
  · by_cases h2 : rd q 0 = rd d 0
    · simp [h2]
    · simp [h1, h2]
theorem keGood_loop (n m : Int) (l : List (List Int)) (hn : 0 ≤ n ∧ n ≤ 8) (hl : l.length ≤ 1048576) (hlen : ∀ d ∈ l, d.length ≤ 1048576) : ∀ (r pre : List (List Int)) (p : Option (List Int)), l = pre ++ r → PrevK p pre → Ev (fun k => spec_keGood.l0 k l (l.length : Int) (pre.length : Int) n l m) (ksB n p r) := by
  have hw : wrap64 (n - 1) = n - 1 := wr_id (by omega) (by omega)
  intro r
  induction r with
  | nil =>
    intro pre p e hp
    rw [List.append_nil] at e
    subst e
    refine Ev.step (fun k => spec_keGood.l0.eq_2 ..) ?_
    simp only [if_neg (show ¬ (l.length : Int) < (l.length : Int) by omega), ksB]
    exact Ev.now _
  | cons d r ih =>
    intro pre p e hp
    have hdl := hlen d (by rw [e]; simp)
    have hrd : rd_L1 l (pre.length : Int) = d := by rw [e]; exact rdL2_midK pre d r
    have hpl : (pre.length : Int) < (l.length : Int) := by rw [e]; simp; omega
    have hwp : wrap64 ((pre.length : Int) + 1) = ((pre ++ [d]).length : Int) := by rw [wr_id (by omega) (by omega)]; simp
    refine Ev.step (fun k => spec_keGood.l0.eq_2 ..) ?_
    simp only [if_pos hpl, if_pos (show 0 ≤ (pre.length : Int) by omega), hrd, hw, ksB]
    have hj : ∀ b : Bool, (b = true → d.length = 2) → Ev (fun k => spec_keGood.j2 k (pre.length : Int) d l (l.length : Int) (pre.length : Int) (!b) n l m) (b && (pvB p d && ksB n (some d) r)) := by
      intro b hb
      refine Ev.step (fun k => spec_keGood.j2.eq_2 ..) ?_
      cases b with
      | false => simp only [Bool.not_false, if_true, Bool.false_and]; exact Ev.now _
      | true =>
        have hd2 := hb rfl
        simp only [Bool.not_true, Bool.false_eq_true, if_false, Bool.true_and]
        have hnext := ih (pre ++ [d]) (some d) (by rw [e]; simp) (.inr ⟨pre, d, rfl, rfl, hd2⟩)
        rcases hp with ⟨rfl, rfl⟩ | ⟨pre', q, rfl, rfl, hq2⟩
        · simp only [List.length_nil, Int.natCast_zero, if_neg (show ¬ (0 : Int) > 0 by omega), pvB, Bool.true_and]
          simp only [List.length_nil, Int.natCast_zero] at hwp
          rw [hwp]
          exact hnext
        · have hpos : ((pre' ++ [q]).length : Int) > 0 := by simp only [List.length_append, List.length_cons, List.length_nil]; omega
          have hw1 : wrap64 (((pre' ++ [q]).length : Int) - 1) = ((pre' ++ [q]).length : Int) - 1 := wr_id (by omega) (by omega)
          have hrq : rd_L1 l (((pre' ++ [q]).length : Int) - 1) = q := by rw [e]; exact rdL2_prevK pre' q d r
          simp only [if_pos hpos, hw1, if_pos (show 0 ≤ ((pre' ++ [q]).length : Int) - 1 by omega), if_pos (show ((pre' ++ [q]).length : Int) - 1 < (l.length : Int) by omega), hrq, keBefore_val hq2 hd2, Option.bind_some, pvB]
          cases hbf : bef q d with
          | false => simp only [Bool.false_eq_true, if_false, Bool.false_and]; exact Ev.now _
          | true => simp only [if_true, Bool.true_and, hwp]; exact hnext
    by_cases h2 : d.length = 2
    · simp only [if_pos (show (d.length : Int) = 2 by omega)]
      refine Ev.bind (l1Rising_ev d 0 (n - 1) (by omega)) ?_
      have := hj (d.all (inB 0 (n - 1)) && risP d) (fun _ => h2)
      unfold dOk
      rw [decide_eq_true h2, Bool.true_and]
      exact this
    · simp only [if_neg (show ¬ (d.length : Int) = 2 by omega)]
      have := hj false (fun h => by cases h)
      unfold dOk
      rw [decide_eq_false h2, Bool.false_and]
      exact this
theorem keGood_ev (n m : Int) (l : List (List Int)) (hl : l.length ≤ 1048576) (hlen : ∀ d ∈ l, d.length ≤ 1048576) : Ev (fun k => spec_keGood.f k n l m) (goodK n l m) := by
  unfold spec_keGood.f goodK
  rw [l1In_eq, l1In_eq]
  simp only [Option.bind_some]
  cases h1 : inB 0 8 n with
  | false =>
    simp only [Bool.false_eq_true, if_false, Bool.false_and]
    refine Ev.step (fun k => spec_keGood.j0.eq_2 ..) ?_
    simp only [if_true]
    exact Ev.now _
  | true =>
    simp only [if_true, Bool.true_and]
    refine Ev.step (fun k => spec_keGood.j0.eq_2 ..) ?_
    cases h2 : inB 0 8 m with
    | false => simp only [Bool.not_false, if_true, Bool.false_and]; exact Ev.now _
    | true =>
      simp only [Bool.not_true, Bool.false_eq_true, if_false, Bool.true_and]
      simp only [inB, Bool.and_eq_true, decide_eq_true_eq] at h1
      exact keGood_loop n m l h1 hl hlen l [] none rfl (.inl ⟨rfl, rfl⟩)
theorem isKeep_loop (n m : Int) (l : List (List Int)) (hn : 0 ≤ n ∧ n ≤ 8) (hl : l.length ≤ 1048576) : ∀ (r pre : List (List Int)) (p : Option (List Int)), l = pre ++ r → PrevK p pre → Ev (fun k => impl_IsKeep.l0 k l (l.length : Int) (pre.length : Int) n l m) (ksB n p r) := by
  have hw : wrap64 (n - 1) = n - 1 := wr_id (by omega) (by omega)
  intro r
  induction r with
  | nil =>
    intro pre p e hp
    rw [List.append_nil] at e
    subst e
    refine Ev.step (fun k => impl_IsKeep.l0.eq_2 ..) ?_
    simp only [if_neg (show ¬ (l.length : Int) < (l.length : Int) by omega), ksB]
    exact Ev.now _
  | cons d r ih =>
    intro pre p e hp
    have hrd : rd_L1 l (pre.length : Int) = d := by rw [e]; exact rdL2_midK pre d r
    have hpl : (pre.length : Int) < (l.length : Int) := by rw [e]; simp; omega
    have hwp : wrap64 ((pre.length : Int) + 1) = ((pre ++ [d]).length : Int) := by rw [wr_id (by omega) (by omega)]; simp
    refine Ev.step (fun k => impl_IsKeep.l0.eq_2 ..) ?_
    simp only [if_pos hpl, if_pos (show 0 ≤ (pre.length : Int) by omega), hrd, hw, ksB, areIn_eq, Option.bind_some]
    unfold dOk
    by_cases h2 : d.length = 2
    · have hb2 : inB 2 2 (d.length : Int) = true := by rw [h2]; rfl
      rw [hb2, decide_eq_true h2]
      simp only [Bool.true_and]
      cases ha : d.all (inB 0 (n - 1)) with
      | false => simp only [Bool.false_eq_true, if_false, Bool.false_and]; exact Ev.now _
      | true =>
        obtain ⟨a, b, rfl⟩ := len2 h2
        have hris : risP [a, b] = decide (a < b) := by simp [risP, risF]
        have r0 : rd [a, b] 0 = a := rfl
        have r1 : rd [a, b] 1 = b := rfl
        simp only [if_true, Bool.true_and, hris, r0, r1, if_pos (show (0 : Int) < (([a, b] : List Int).length : Int) by simp), if_pos (show (1 : Int) < (([a, b] : List Int).length : Int) by simp)]
        by_cases hab : a < b
        · have hnext := ih (pre ++ [[a, b]]) (some [a, b]) (by rw [e]; simp) (.inr ⟨pre, [a, b], rfl, rfl, rfl⟩)
          simp only [if_neg (show ¬ a ≥ b by omega), decide_eq_true hab, Bool.true_and]
          rcases hp with ⟨rfl, rfl⟩ | ⟨pre', q, rfl, rfl, hq2⟩
          · simp only [List.length_nil, Int.natCast_zero, if_neg (show ¬ (0 : Int) > 0 by omega), pvB, Bool.true_and]
            simp only [List.length_nil, Int.natCast_zero] at hwp
            rw [hwp]
            exact hnext
          · have hpos : ((pre' ++ [q]).length : Int) > 0 := by simp only [List.length_append, List.length_cons, List.length_nil]; omega
            have hw1 : wrap64 (((pre' ++ [q]).length : Int) - 1) = ((pre' ++ [q]).length : Int) - 1 := wr_id (by omega) (by omega)
            have hrq : rd_L1 l (((pre' ++ [q]).length : Int) - 1) = q := by rw [e]; exact rdL2_prevK pre' q [a, b] r
            obtain ⟨x, y, rfl⟩ := len2 hq2
            obtain ⟨c, hc, hcb⟩ := compare2_ev x y a b
            simp only [if_pos hpos, hw1, if_pos (show 0 ≤ ((pre' ++ [[x, y]]).length : Int) - 1 by omega), if_pos (show ((pre' ++ [[x, y]]).length : Int) - 1 < (l.length : Int) by omega), hrq, pvB]
            refine Ev.bind hc ?_
            cases hbf : bef [x, y] [a, b] with
            | false => simp only [if_pos (hcb.2 hbf), Bool.false_and]; exact Ev.now _
            | true =>
              have : ¬ c ≥ 0 := fun h => by rw [hcb.1 h] at hbf; cases hbf
              simp only [if_neg this, Bool.true_and, hwp]; exact hnext
        · simp only [if_pos (show a ≥ b by omega), decide_eq_false hab, Bool.false_and]; exact Ev.now _
    · have hb2 : inB 2 2 (d.length : Int) = false := by
        unfold inB
        by_cases q : 2 ≤ (d.length : Int)
        · rw [decide_eq_false (show ¬ (d.length : Int) ≤ 2 by omega), Bool.and_false]
        · rw [decide_eq_false q, Bool.false_and]
      rw [hb2, decide_eq_false h2]
      simp only [Bool.false_and, Bool.false_eq_true, if_false]
      exact Ev.now _
theorem isKeep_ev (n m : Int) (l : List (List Int)) (hl : l.length ≤ 1048576) : Ev (fun k => impl_IsKeep.f k n l m) (goodK n l m) := by
  unfold impl_IsKeep.f goodK
  rw [in_eq, in_eq]
  simp only [Option.bind_some]
  cases h1 : inB 0 8 n with
  | false =>
    simp only [Bool.false_eq_true, if_false, Bool.false_and]
    refine Ev.step (fun k => impl_IsKeep.j0.eq_2 ..) ?_
    simp only [if_true]
    exact Ev.now _
  | true =>
    simp only [if_true, Bool.true_and]
    refine Ev.step (fun k => impl_IsKeep.j0.eq_2 ..) ?_
    cases h2 : inB 0 8 m with
    | false => simp only [Bool.not_false, if_true, Bool.false_and]; exact Ev.now _
    | true =>
      simp only [Bool.not_true, Bool.false_eq_true, if_false, Bool.true_and]
      simp only [inB, Bool.and_eq_true, decide_eq_true_eq] at h1
      exact isKeep_loop n m l h1 hl l [] none rfl (.inl ⟨rfl, rfl⟩)
end Go.Proofs.Ytmfofjloklafoaa.Pure

namespace Go.Proofs.Ytmfofjloklafoaa.Pure
open Go.RowKit Go.Proofs.Ytmfofjloklafoaa.C7 Go.Proofs.Ytmfofjloklafoaa.H Go.Proofs.YtmfofjloklafoaaW.PrintWords Go.Proofs.YtmfofjloklafoaaW.PrintLast Go.Proofs.YtmfofjloklafoaaW.PrintMore
set_option linter.unusedVariables false
set_option linter.unusedSimpArgs false
def dgB (ov : List Bool) (b : Bool) (d : List Int) : Bool := (rdOf false ov (rd d 0) != b) && (rdOf false ov (rd d 1) != b)
def dgP (l : List (List Int)) (ov : List Bool) (b : Bool) : List (List Int) := l.filter (dgB ov b)
def safeK (l : List (List Int)) (ov : List Bool) (b : Bool) : Bool := decide ((dgP l ov b).length = 0)
def ridesK (l : List (List Int)) (m : Int) (ov : List Bool) (tr : Bool) : List (List Int) := ([] :: tripsP m ov tr).filter (fun t => safeK l (mv (!tr) t ov) (!tr))
section
variable {n m : Int} {l : List (List Int)}
theorem dangers_loop (n m : Int) (l : List (List Int)) (ov : List Bool) (b : Bool) (hl : l.length ≤ 1048576) (hd : ∀ d ∈ l, dOk n d = true) (ho : (ov.length : Int) = n) : ∀ (r pre acc : List (List Int)), l = pre ++ r → acc.length + r.length ≤ 1048576 → Ev (fun k => impl_Keep_dangers.l0 k acc l (l.length : Int) (pre.length : Int) ov b) (acc ++ r.filter (dgB ov b)) := by
  intro r
  induction r with
  | nil =>
    intro pre acc e ha
    rw [List.append_nil] at e
    subst e
    refine Ev.step (fun k => impl_Keep_dangers.l0.eq_2 ..) ?_
    simp only [if_neg (show ¬ (l.length : Int) < (l.length : Int) by omega)]
    rw [List.filter_nil, List.append_nil]
    exact Ev.now _
  | cons d r ih =>
    intro pre acc e ha
    simp only [List.length_cons] at ha
    obtain ⟨x, y, rfl, h0, h1, h2⟩ := dOk_two (hd d (by rw [e]; simp))
    have hrd : rd_L1 l (pre.length : Int) = [x, y] := by rw [e]; exact rdL2_midK pre [x, y] r
    have hpl : (pre.length : Int) < (l.length : Int) := by rw [e]; simp; omega
    have hwp : wrap64 ((pre.length : Int) + 1) = ((pre ++ [[x, y]]).length : Int) := by rw [wr_id (by omega) (by omega)]; simp
    have r0 : rd [x, y] 0 = x := rfl
    have r1 : rd [x, y] 1 = y := rfl
    have hcl : slices_Clone_int_int.f [x, y] = some [x, y] := by unfold slices_Clone_int_int.f; exact if_pos (by simp)
    refine Ev.step (fun k => impl_Keep_dangers.l0.eq_2 ..) ?_
    simp only [if_pos hpl, if_pos (show 0 ≤ (pre.length : Int) by omega), hrd, r0, r1, if_pos (show (0 : Int) < (([x, y] : List Int).length : Int) by simp), if_pos (show (1 : Int) < (([x, y] : List Int).length : Int) by simp), if_pos h0, if_pos (show x < (ov.length : Int) by omega), if_pos (show 0 ≤ y by omega), if_pos (show y < (ov.length : Int) by omega), hcl, Option.bind_some, if_pos (show acc.length < 5864062014805 by omega), hwp]
    rw [List.filter_cons]
    unfold dgB
    rw [r0, r1]
    cases hx : (rdOf false ov x != b) with
    | false =>
      simp only [Bool.false_and, Bool.false_eq_true, if_false]
      exact ih (pre ++ [[x, y]]) acc (by rw [e]; simp) (by omega)
    | true =>
      cases hy : (rdOf false ov y != b) with
      | false =>
        simp only [Bool.and_false, Bool.false_eq_true, if_false, if_true]
        exact ih (pre ++ [[x, y]]) acc (by rw [e]; simp) (by omega)
      | true =>
        simp only [Bool.and_true, if_true]
        have := ih (pre ++ [[x, y]]) (acc ++ [[x, y]]) (by rw [e]; simp) (by simp; omega)
        rw [List.append_assoc] at this
        exact this
theorem dangers_ev (n m : Int) (l : List (List Int)) (ov : List Bool) (b : Bool) (hl : l.length ≤ 1048576) (hd : ∀ d ∈ l, dOk n d = true) (ho : (ov.length : Int) = n) : Ev (fun k => impl_Keep_dangers.f k n l m ov b) (dgP l ov b) := by
  have := dangers_loop n m l ov b hl hd ho l [] [] rfl (by simpa using hl)
  rw [List.nil_append] at this
  exact this
theorem keNow_loop (n m : Int) (l : List (List Int)) (ov : List Bool) (b : Bool) (hl : l.length ≤ 1048576) (hd : ∀ d ∈ l, dOk n d = true) (ho : (ov.length : Int) = n) : ∀ (r pre acc : List (List Int)), l = pre ++ r → acc.length + r.length ≤ 1048576 → Ev (fun k => spec_keNow.l0 k acc l (l.length : Int) (pre.length : Int) ov b) (acc ++ r.filter (dgB ov b)) := by
  intro r
  induction r with
  | nil =>
    intro pre acc e ha
    rw [List.append_nil] at e
    subst e
    refine Ev.step (fun k => spec_keNow.l0.eq_2 ..) ?_
    simp only [if_neg (show ¬ (l.length : Int) < (l.length : Int) by omega)]
    rw [List.filter_nil, List.append_nil]
    exact Ev.now _
  | cons d r ih =>
    intro pre acc e ha
    simp only [List.length_cons] at ha
    obtain ⟨x, y, rfl, h0, h1, h2⟩ := dOk_two (hd d (by rw [e]; simp))
    have hrd : rd_L1 l (pre.length : Int) = [x, y] := by rw [e]; exact rdL2_midK pre [x, y] r
    have hpl : (pre.length : Int) < (l.length : Int) := by rw [e]; simp; omega
    have hwp : wrap64 ((pre.length : Int) + 1) = ((pre ++ [[x, y]]).length : Int) := by rw [wr_id (by omega) (by omega)]; simp
    have r0 : rd [x, y] 0 = x := rfl
    have r1 : rd [x, y] 1 = y := rfl
    have hcl : spec_l1Own.f [x, y] = some [x, y] := l1Own_eq [x, y] (by simp)
    refine Ev.step (fun k => spec_keNow.l0.eq_2 ..) ?_
    simp only [if_pos hpl, if_pos (show 0 ≤ (pre.length : Int) by omega), hrd, r0, r1, if_pos (show (0 : Int) < (([x, y] : List Int).length : Int) by simp), if_pos (show (1 : Int) < (([x, y] : List Int).length : Int) by simp), if_pos h0, if_pos (show x < (ov.length : Int) by omega), if_pos (show 0 ≤ y by omega), if_pos (show y < (ov.length : Int) by omega), hcl, Option.bind_some, if_pos (show acc.length < 5864062014805 by omega), hwp]
    rw [List.filter_cons]
    unfold dgB
    rw [r0, r1]
    cases hx : (rdOf false ov x != b) with
    | false =>
      simp only [Bool.false_and, Bool.false_eq_true, if_false]
      exact ih (pre ++ [[x, y]]) acc (by rw [e]; simp) (by omega)
    | true =>
      cases hy : (rdOf false ov y != b) with
      | false =>
        simp only [Bool.and_false, Bool.false_eq_true, if_false, if_true]
        exact ih (pre ++ [[x, y]]) acc (by rw [e]; simp) (by omega)
      | true =>
        simp only [Bool.and_true, if_true]
        have := ih (pre ++ [[x, y]]) (acc ++ [[x, y]]) (by rw [e]; simp) (by simp; omega)
        rw [List.append_assoc] at this
        exact this
theorem keNow_ev (n m : Int) (l : List (List Int)) (ov : List Bool) (b : Bool) (hl : l.length ≤ 1048576) (hd : ∀ d ∈ l, dOk n d = true) (ho : (ov.length : Int) = n) : Ev (fun k => spec_keNow.f k n l m ov b) (dgP l ov b) := by
  have := keNow_loop n m l ov b hl hd ho l [] [] rfl (by simpa using hl)
  rw [List.nil_append] at this
  exact this
theorem keRide_loop (st : List Bool) (b c : Bool) : ∀ (r pre : List Int) (o : List Bool), (pre ++ r).length ≤ 1048576 → (∀ x ∈ r, 0 ≤ x ∧ x < (st.length : Int)) → (∀ x ∈ r, rdOf false st x = b) → o.length = st.length → Ev (fun k => spec_keRide.l0 k (pre ++ r) ((pre ++ r).length : Int) (pre.length : Int) st b o c) (mv (!b) r o, c) := by
  intro r
  induction r with
  | nil =>
    intro pre o hl hi hb ho
    refine Ev.step (fun k => spec_keRide.l0.eq_2 ..) ?_
    simp only [if_neg (nlt_end pre)]
    exact Ev.now _
  | cons x r ih =>
    intro pre o hl hi hb ho
    have hx := hi x (by simp)
    have hbx := hb x (by simp)
    refine Ev.step (fun k => spec_keRide.l0.eq_2 ..) ?_
    rw [rd_mid, wr_mid pre x r (by omega), app_mid pre x r]
    simp only [if_pos (show (pre.length : Int) < (((pre ++ [x]) ++ r).length : Int) by simp; omega), if_pos (zle pre.length), if_pos hx.1, if_pos hx.2, if_pos (show x < (o.length : Int) by omega), hbx]
    exact ih (pre ++ [x]) (o.set x.toNat (!b)) (by simpa using hl) (fun y hy => hi y (by simp [hy])) (fun y hy => hb y (by simp [hy])) (by rw [List.length_set]; exact ho)
theorem keRide_ev (st : List Bool) (b : Bool) (t : List Int) (hs : st.length ≤ 1048576) (ht : t.length ≤ 1048576) (hi : ∀ x ∈ t, 0 ≤ x ∧ x < (st.length : Int)) (hb : ∀ x ∈ t, rdOf false st x = b) : Ev (fun k => spec_keRide.f k st b t) (mv (!b) t st, !b) := by
  unfold spec_keRide.f
  simp only [Option.bind_some, List.length_nil, Nat.zero_add, List.nil_append, if_pos (show st.length < 140737488355328 by omega)]
  exact keRide_loop st b (!b) t [] st (by simpa using ht) hi hb rfl
theorem listK {m : Int} {ov : List Bool} {tr : Bool} (hm : 0 ≤ m) {t : List Int} (h : t ∈ [] :: tripsP m ov tr) : (t.length : Int) ≤ m ∧ (∀ x ∈ t, 0 ≤ x ∧ x < (ov.length : Int) ∧ rdOf false ov x = tr) ∧ risP t = true ∧ t.length ≤ ov.length := by
  rcases List.mem_cons.1 h with rfl | h
  · exact ⟨by simpa using hm, ⟨fun x hx => (by cases hx), rfl, by simp⟩⟩
  · have h1 := tripsP_mem.1 h
    have h2 := group_of h
    have h3 := grpsF_elem m _ _ t h
    have h4 := sideP_len tr ov 0
    simp at h3
    exact ⟨h1.2.1, h2.1, h2.2.1, by omega⟩
theorem keepS_ev (hd : ∀ d ∈ l, dOk n d = true) (hl : l.length ≤ 1048576) {ov : List Bool} {tr : Bool} (ho : (ov.length : Int) = n) (hn : n ≤ 8) (hm : 0 ≤ m) (s : List (List Int)) (hs : s.length < 1099511627776) {t : List Int} (ht : t ∈ [] :: tripsP m ov tr) : Ev (fun k => keepS k n l m ov tr s t) (if safeK l (mv (!tr) t ov) (!tr) then s ++ [t] else s) := by
  obtain ⟨h1, h2, h3, h4⟩ := listK hm ht
  unfold keepS
  refine Ev.bind (moved_ev ov tr t (by omega) (by omega) (fun x hx => ⟨(h2 x hx).1, (h2 x hx).2.1⟩)) ?_
  dsimp only
  refine Ev.bind (dangers_ev n m l (mv (!tr) t ov) (!tr) hl hd (by rw [mv_len]; exact ho)) ?_
  unfold safeK
  by_cases hz : (dgP l (mv (!tr) t ov) (!tr)).length = 0
  · simp only [if_pos hz, decide_eq_true hz, if_true]
    unfold pushS
    simp only [if_pos hs]
    exact Ev.now _
  · simp only [if_neg hz, decide_eq_false hz, Bool.false_eq_true, if_false]
    exact Ev.now _
theorem keepFold_ev (hd : ∀ d ∈ l, dOk n d = true) (hl : l.length ≤ 1048576) {ov : List Bool} {tr : Bool} (ho : (ov.length : Int) = n) (hn : n ≤ 8) (hm : 0 ≤ m) : ∀ (gs s : List (List Int)), (∀ t ∈ gs, t ∈ [] :: tripsP m ov tr) → s.length + gs.length < 1099511627776 → Ev (fun k => gs.foldlM (keepS k n l m ov tr) s) (s ++ gs.filter (fun t => safeK l (mv (!tr) t ov) (!tr))) := by
  intro gs
  induction gs with
  | nil => intro s _ _; simp only [List.foldlM_nil, List.filter_nil, List.append_nil]; exact Ev.now _
  | cons t gs ih =>
    intro s hg hsl
    simp only [List.length_cons] at hsl
    simp only [List.foldlM_cons, List.filter_cons]
    refine Ev.bind (keepS_ev hd hl ho hn hm s (by omega) (hg t (by simp))) ?_
    cases hq : safeK l (mv (!tr) t ov) (!tr) with
    | true =>
      simp only [if_true]
      have := ih (s ++ [t]) (fun x hx => hg x (by simp [hx])) (by simp; omega)
      rw [List.append_assoc] at this
      exact this
    | false =>
      simp only [Bool.false_eq_true, if_false]
      exact ih s (fun x hx => hg x (by simp [hx])) (by omega)
theorem trips_lenK (m : Int) (ov : List Bool) (tr : Bool) (ho : ov.length ≤ 8) : (tripsP m ov tr).length ≤ 256 := by
  have hsl := sideP_len tr ov 0
  have hgl := grpsF_len m (sideP tr ov 0) []
  have hpw : 2 ^ (sideP tr ov 0).length ≤ 2 ^ 8 := Nat.pow_le_pow_right (by omega) (by omega)
  unfold tripsP
  omega
theorem keepRides_ev (hd : ∀ d ∈ l, dOk n d = true) (hl : l.length ≤ 1048576) (ov : List Bool) (tr : Bool) (ho : (ov.length : Int) = n) (hn : n ≤ 8) (hm : 0 ≤ m) : Ev (fun k => impl_Keep_rides.f k n l m ov tr) (ridesK l m ov tr) := by
  have htl := trips_lenK m ov tr (by omega)
  have hsl := sideP_len tr ov 0
  unfold impl_Keep_rides.f ridesK
  refine Ev.bind (keepS_ev hd hl ho hn hm [] (by simp) (t := []) (by simp)) (Ev.bind (side_ev ov tr tr (by omega)) ?_)
  simp only [if_pos (show (sideP tr ov 0).length ≤ 20 by omega), List.filter_cons]
  have hf := fun s hs => keepFold_ev (ov := ov) (tr := tr) hd hl ho hn hm (tripsP m ov tr) s (fun t ht => List.mem_cons_of_mem _ ht) hs
  cases hq : safeK l (mv (!tr) [] ov) (!tr) with
  | true =>
    simp only [if_true]
    have := hf [[]] (by simp; omega)
    exact this
  | false =>
    simp only [Bool.false_eq_true, if_false]
    have := hf [] (by simp; omega)
    rw [List.nil_append] at this
    exact this
theorem keCan_loop (hd : ∀ d ∈ l, dOk n d = true) (hl : l.length ≤ 1048576) {ov : List Bool} {tr : Bool} (ho : (ov.length : Int) = n) (hn : n ≤ 8) {t : List Int} (h2 : ∀ x ∈ t, 0 ≤ x ∧ x < (ov.length : Int) ∧ rdOf false ov x = tr) (h4 : t.length ≤ ov.length) : ∀ (r pre : List Int), t = pre ++ r → Ev (fun k => spec_keCan.l0 k t t (t.length : Int) (pre.length : Int) n l m ov tr) (safeK l (mv (!tr) t ov) (!tr)) := by
  intro r
  induction r with
  | nil =>
    intro pre e
    rw [List.append_nil] at e
    subst e
    refine Ev.step (fun k => spec_keCan.l0.eq_2 ..) ?_
    simp only [if_neg (show ¬ (t.length : Int) < (t.length : Int) by omega)]
    refine Ev.bind (keRide_ev ov tr t (by omega) (by omega) (fun x hx => ⟨(h2 x hx).1, (h2 x hx).2.1⟩) (fun x hx => (h2 x hx).2.2)) ?_
    dsimp only
    refine Ev.bind (keNow_ev n m l (mv (!tr) t ov) (!tr) hl hd (by rw [mv_len]; exact ho)) ?_
    unfold safeK
    refine ev_eq (Ev.now _) ?_
    by_cases hz : (dgP l (mv (!tr) t ov) (!tr)).length = 0
    · rw [decide_eq_true hz, hz]; rfl
    · rw [decide_eq_false hz, beq_eq_false_iff_ne]; omega
  | cons x r ih =>
    intro pre e
    have hx := h2 x (by rw [e]; simp)
    have hrd : rd t (pre.length : Int) = x := by rw [e]; exact rd_mid pre x r
    have hpl : (pre.length : Int) < (t.length : Int) := by rw [e]; simp; omega
    have hwp : wrap64 ((pre.length : Int) + 1) = ((pre ++ [x]).length : Int) := by rw [wr_id (by omega) (by omega)]; simp
    refine Ev.step (fun k => spec_keCan.l0.eq_2 ..) ?_
    simp only [if_pos hpl, if_pos (zle pre.length), hrd, if_pos hx.1, if_pos hx.2.1, hx.2.2, bne_self_eq_false, Bool.false_eq_true, if_false, hwp]
    exact ih (pre ++ [x]) (by rw [e]; simp)
theorem keCan_ev (hd : ∀ d ∈ l, dOk n d = true) (hl : l.length ≤ 1048576) {ov : List Bool} {tr : Bool} (ho : (ov.length : Int) = n) (hn : n ≤ 8) (hm : 0 ≤ m) {t : List Int} (ht : t ∈ [] :: tripsP m ov tr) : Ev (fun k => spec_keCan.f k n l m ov tr t) (safeK l (mv (!tr) t ov) (!tr)) := by
  obtain ⟨h1, h2, h3, h4⟩ := listK hm ht
  have hn0 : 0 ≤ n := by omega
  unfold spec_keCan.f
  rw [wr_id (a := n - 1) (by omega) (by omega)]
  simp only [if_neg (show ¬ (t.length : Int) > m by omega)]
  have e1 : t.all (inB 0 (n - 1)) = true := List.all_eq_true.2 fun x hx => by
    have := h2 x hx
    simp only [inB, Bool.and_eq_true, decide_eq_true_eq]
    omega
  have hr := l1Rising_ev t 0 (n - 1) (by omega)
  rw [e1, h3] at hr
  refine Ev.bind hr ?_
  refine Ev.step (fun k => spec_keCan.j0.eq_2 ..) ?_
  simp only [Bool.and_true, Bool.not_true, Bool.false_eq_true, if_false]
  exact keCan_loop hd hl ho hn h2 h4 t [] rfl
theorem keRides_loop1 (hd : ∀ d ∈ l, dOk n d = true) (hl : l.length ≤ 1048576) {ov : List Bool} {tr : Bool} (ho : (ov.length : Int) = n) (hn : n ≤ 8) (hm : 0 ≤ m) (ts : List (List Int)) (hts : ts.length ≤ 1000) (hti : ∀ t ∈ ts, t ∈ [] :: tripsP m ov tr) : ∀ (r pre acc : List (List Int)), ts = pre ++ r → acc.length + r.length ≤ 1000 → Ev (fun k => spec_keRides.l1 k acc ts (ts.length : Int) (pre.length : Int) n l m ov tr) (acc ++ r.filter (fun t => safeK l (mv (!tr) t ov) (!tr))) := by
  intro r
  induction r with
  | nil =>
    intro pre acc e ha
    rw [List.append_nil] at e
    subst e
    refine Ev.step (fun k => spec_keRides.l1.eq_2 ..) ?_
    simp only [if_neg (show ¬ (ts.length : Int) < (ts.length : Int) by omega)]
    rw [List.filter_nil, List.append_nil]
    exact Ev.now _
  | cons t r ih =>
    intro pre acc e ha
    simp only [List.length_cons] at ha
    have hrd : rd_L1 ts (pre.length : Int) = t := by rw [e]; exact rdL2_midK pre t r
    have hpl : (pre.length : Int) < (ts.length : Int) := by rw [e]; simp; omega
    have hwp : wrap64 ((pre.length : Int) + 1) = ((pre ++ [t]).length : Int) := by rw [wr_id (by omega) (by omega)]; simp
    refine Ev.step (fun k => spec_keRides.l1.eq_2 ..) ?_
    simp only [if_pos hpl, if_pos (zle pre.length), hrd, hwp]
    refine Ev.bind (keCan_ev hd hl ho hn hm (hti t (by rw [e]; simp))) ?_
    rw [List.filter_cons]
    cases hq : safeK l (mv (!tr) t ov) (!tr) with
    | true =>
      simp only [if_true, if_pos (show acc.length < 5864062014805 by omega)]
      have := ih (pre ++ [t]) (acc ++ [t]) (by rw [e]; simp) (by simp; omega)
      rw [List.append_assoc] at this
      exact this
    | false =>
      simp only [Bool.false_eq_true, if_false]
      exact ih (pre ++ [t]) acc (by rw [e]; simp) (by omega)
theorem keRides_loop0 (hd : ∀ d ∈ l, dOk n d = true) (hl : l.length ≤ 1048576) {ov : List Bool} {tr : Bool} (ho : (ov.length : Int) = n) (hn : n ≤ 8) (hm : 0 ≤ m) : ∀ (r pre : List Bool) (acc : List Int), ov = pre ++ r → acc ++ sideP tr r pre.length = sideP tr ov 0 → acc.length + r.length ≤ 8 → Ev (fun k => spec_keRides.l0 k acc ov (ov.length : Int) (pre.length : Int) n l m ov tr) (ridesK l m ov tr) := by
  have htl := trips_lenK m ov tr (by omega)
  intro r
  induction r with
  | nil =>
    intro pre acc e ha hal
    rw [List.append_nil] at e
    simp only [sideP, List.append_nil] at ha
    rw [e] at ha
    subst e
    simp only [List.length_nil, Nat.add_zero] at hal
    refine Ev.step (fun k => spec_keRides.l0.eq_2 ..) ?_
    simp only [if_neg (show ¬ (ov.length : Int) < (ov.length : Int) by omega), Option.bind_some]
    have hfin : ∀ ts : List (List Int), ts = [] :: tripsP m ov tr → Ev (fun k => spec_keRides.j1 k ts n l m ov tr) (ridesK l m ov tr) := by
      intro ts e
      subst e
      refine Ev.step (fun k => spec_keRides.j1.eq_2 ..) ?_
      have := keRides_loop1 hd hl ho hn hm ([] :: tripsP m ov tr) (by simp; omega) (fun t ht => ht) ([] :: tripsP m ov tr) [] [] rfl (by simp; omega)
      rw [List.nil_append] at this
      exact this
    by_cases h0 : m > 0
    · simp only [if_pos h0]
      have hg := paGroups_ev m acc (by omega) acc.length 0 [] (by omega) (by omega) (by simp; omega) (by simp; omega)
      have he : begP [] ++ grpsF m (acc.drop 0) [] = tripsP m ov tr := by
        simp only [begP, List.nil_append, List.drop_zero]
        rw [ha]
        rfl
      rw [he] at hg
      refine Ev.bind hg ?_
      simp only [if_pos (show ([([] : List Int)] : List (List Int)).length + (tripsP m ov tr).length < 5864062014805 by simp; omega)]
      exact hfin _ rfl
    · simp only [if_neg h0]
      have hz : tripsP m ov tr = [] := by
        unfold tripsP
        have : m = 0 := by omega
        subst this
        cases sideP tr ov 0 with
        | nil => rfl
        | cons x r => simp [grpsF]
      exact hfin _ (by rw [hz])
  | cons x r ih =>
    intro pre acc e ha hal
    simp only [List.length_cons] at hal
    have hrd : rdOf false ov (pre.length : Int) = x := by rw [e]; exact rdOf_mid false pre x r
    have hpl : (pre.length : Int) < (ov.length : Int) := by rw [e]; simp; omega
    have hwp : wrap64 ((pre.length : Int) + 1) = ((pre ++ [x]).length : Int) := by rw [wr_id (by omega) (by omega)]; simp
    refine Ev.step (fun k => spec_keRides.l0.eq_2 ..) ?_
    simp only [if_pos hpl, if_pos (zle pre.length), hrd, hwp]
    cases hx : x == tr with
    | true =>
      simp only [if_true, if_pos (show acc.length < 17592186044416 by omega)]
      exact ih (pre ++ [x]) (acc ++ [(pre.length : Int)]) (by rw [e]; simp) (by rw [← ha]; simp [sideP, hx]) (by simp; omega)
    | false =>
      simp only [Bool.false_eq_true, if_false]
      exact ih (pre ++ [x]) acc (by rw [e]; simp) (by rw [← ha]; simp [sideP, hx]) (by omega)
theorem keRides_ev (hd : ∀ d ∈ l, dOk n d = true) (hl : l.length ≤ 1048576) (ov : List Bool) (tr : Bool) (ho : (ov.length : Int) = n) (hn : n ≤ 8) (hm : 0 ≤ m) : Ev (fun k => spec_keRides.f k n l m ov tr) (ridesK l m ov tr) := keRides_loop0 hd hl ho hn hm ov [] [] rfl (by simp) (by simp; omega)
end
end Go.Proofs.Ytmfofjloklafoaa.Pure

namespace Go.Proofs.Ytmfofjloklafoaa.Pure
open Go.RowKit Go.Proofs.Ytmfofjloklafoaa.C7 Go.Proofs.Ytmfofjloklafoaa.H Go.Proofs.YtmfofjloklafoaaW.PrintWords Go.Proofs.YtmfofjloklafoaaW.PrintLast Go.Proofs.YtmfofjloklafoaaW.PrintMore
set_option linter.unusedVariables false
set_option linter.unusedSimpArgs false
structure TripsOk (n : Nat) (ok : List Bool → Bool → Prop) (tps : List Bool → Bool → List (List Int)) (cst : List Int → Int) (C M : Nat) : Prop where
  n8 : n ≤ 8
  cnt : ∀ ov tr, ov.length = n → (tps ov tr).length ≤ M
  cost : ∀ ov tr, ov.length = n → ∀ t ∈ tps ov tr, 1 ≤ cst t ∧ cst t ≤ (C : Int)
  tgt : ∀ ov tr, ov.length = n → ∀ t ∈ tps ov tr, ok (mv (!tr) t ov) (!tr)
  back : ∀ ov tr, ov.length = n → ok ov tr → ∀ t ∈ tps ov tr, t ∈ tps (mv (!tr) t ov) (!tr) ∧ mv tr t (mv (!tr) t ov) = ov
section
variable {n : Nat} {ok : List Bool → Bool → Prop} {tps : List Bool → Bool → List (List Int)} {cst : List Int → Int} {C M : Nat}
end
end Go.Proofs.Ytmfofjloklafoaa.Pure

namespace Go.Proofs.Ytmfofjloklafoaa.Pure
open Go.RowKit Go.Proofs.Ytmfofjloklafoaa.C7 Go.Proofs.Ytmfofjloklafoaa.H Go.Proofs.YtmfofjloklafoaaW.PrintWords Go.Proofs.YtmfofjloklafoaaW.PrintLast Go.Proofs.YtmfofjloklafoaaW.PrintMore
set_option linter.unusedVariables false
set_option linter.unusedSimpArgs false
section
variable {nn : Nat} {m : Int} {l : List (List Int)}
theorem keep_trips (hn : nn ≤ 8) (l : List (List Int)) (m : Int) : TripsOk nn (fun ov tr => safeK l ov tr = true) (ridesK l m) (fun _ => 1) 1 257 := by
  refine ⟨hn, fun ov tr ho => ?_, fun _ _ _ _ _ => ⟨by omega, by omega⟩, fun ov tr ho t ht => ?_, fun ov tr ho hs t ht => ?_⟩
  · have h1 := trips_lenK m ov tr (by omega)
    have h2 := List.length_filter_le (fun t => safeK l (mv (!tr) t ov) (!tr)) ([] :: tripsP m ov tr)
    simp only [List.length_cons] at h2
    unfold ridesK
    omega
  · exact (List.mem_filter.1 ht).2
  · obtain ⟨h1, h2⟩ := List.mem_filter.1 ht
    rcases List.mem_cons.1 h1 with rfl | h1
    · refine ⟨List.mem_filter.2 ⟨List.mem_cons_self, ?_⟩, rfl⟩
      show safeK l (mv (!!tr) [] (mv (!tr) [] ov)) (!!tr) = true
      rw [Bool.not_not]
      exact hs
    · refine ⟨List.mem_filter.2 ⟨List.mem_cons_of_mem _ (trip_back h1), ?_⟩, mv_back h1⟩
      show safeK l (mv (!!tr) t (mv (!tr) t ov)) (!!tr) = true
      rw [Bool.not_not, mv_back h1]
      exact hs
theorem rideK_facts (hm : 0 ≤ m) {ov : List Bool} {tr : Bool} {t : List Int} (ht : t ∈ ridesK l m ov tr) : (∀ x ∈ t, 0 ≤ x ∧ x < (ov.length : Int) ∧ rdOf false ov x = tr) ∧ t.length ≤ ov.length := by
  have h := listK hm (List.mem_filter.1 ht).1
  exact ⟨h.2.1, h.2.2.2⟩
end
theorem goodK_all {n m : Int} {l : List (List Int)} (h : goodK n l m = true) : ∃ nn : Nat, n = (nn : Int) ∧ nn ≤ 8 ∧ 0 ≤ m ∧ m ≤ 8 ∧ ∀ d ∈ l, dOk (nn : Int) d = true := by
  unfold goodK at h
  simp only [Bool.and_eq_true, inB, decide_eq_true_eq] at h
  obtain ⟨⟨h0, h1⟩, ⟨h2, h3⟩, h4⟩ := h
  obtain ⟨nn, rfl⟩ : ∃ nn : Nat, n = (nn : Int) := ⟨n.toNat, by omega⟩
  exact ⟨nn, rfl, by omega, h2, h3, ksB_all l none h4⟩
end Go.Proofs.Ytmfofjloklafoaa.Pure

namespace Go.Proofs.Ytmfofjloklafoaa.Pure
open Go.Proofs.Ytmfofjloklafoaa.Walk Go.RowKit Go.Proofs.Ytmfofjloklafoaa.C7 Go.Proofs.Ytmfofjloklafoaa.H Go.Proofs.YtmfofjloklafoaaW.PrintWords Go.Proofs.YtmfofjloklafoaaW.PrintLast Go.Proofs.YtmfofjloklafoaaW.PrintMore
set_option linter.unusedVariables false
set_option linter.unusedSimpArgs false
theorem FnExactRidesOf_both (n : Int) (l : List (List Int)) (m : Int) (ov : List Bool) (tr : Bool) (hl : n2 l ≤ 1048576) (ho : ov.length ≤ 1048576) : ∃ rr : List (List Int) × Bool, Ev (fun k => spec_RidesOf.f k n l m ov tr) rr ∧ Ev (fun k => impl_RidesOf.f k n l m ov tr) rr ∧ n2 rr.1 ≤ 1048576 := by
  have hll : l.length ≤ 1048576 := by unfold n2 at hl; omega
  have hlen := (szSum_bound List.length l hl).2
  have hA : Ev (fun k => spec_keAsked.f k n l m ov tr) (goodK n l m && ((ov.length : Int) == n)) := by
    unfold spec_keAsked.f
    refine Ev.bind (keGood_ev n m l hll hlen) ?_
    cases goodK n l m with
    | false => simp only [Bool.false_eq_true, if_false, Bool.false_and]; exact Ev.now _
    | true => simp only [if_true, Bool.true_and]; exact Ev.now _
  have hB : Ev (fun k => impl_Keep_hasBank.f k n l m ov tr) (goodK n l m && ((ov.length : Int) == n)) := by
    unfold impl_Keep_hasBank.f
    refine Ev.bind (isKeep_ev n m l hll) ?_
    cases goodK n l m with
    | false => simp only [Bool.false_eq_true, if_false, Bool.false_and]; exact Ev.now _
    | true => simp only [if_true, Bool.true_and]; exact Ev.now _
  unfold spec_RidesOf.f impl_RidesOf.f
  cases hg : (goodK n l m && ((ov.length : Int) == n)) with
  | false =>
    rw [hg] at hA hB
    refine ⟨([], false), Ev.bind hA ?_, Ev.bind hB ?_, by decide⟩
    · simp only [Bool.false_eq_true, if_false]; exact Ev.now _
    · simp only [Bool.false_eq_true, if_false]; exact Ev.now _
  | true =>
    rw [hg] at hA hB
    simp only [Bool.and_eq_true, beq_iff_eq] at hg
    obtain ⟨hg, hon⟩ := hg
    obtain ⟨nn, rfl, hn, hm0, hm1, hd⟩ := goodK_all hg
    refine ⟨(ridesK l m ov tr, true), Ev.bind hA ?_, Ev.bind hB ?_, ?_⟩
    · simp only [if_true]
      exact Ev.bind (keRides_ev hd hll ov tr hon (by omega) hm0) (Ev.now _)
    · simp only [if_true]
      exact Ev.bind (keepRides_ev hd hll ov tr hon (by omega) hm0) (Ev.now _)
    · have h1 := (keep_trips hn l m).cnt ov tr (by omega)
      have h5 := n2_le 8 (ridesK l m ov tr) (fun t ht => by
        have := rideK_facts hm0 ht
        omega)
      dsimp only
      omega
theorem FnExactRidesOf_all (a0_0 : Int) (A0_1 : Option Addr) (c0_1 : Nat) (l0_1 : List (List Int)) (a0_2 : Int) (A1_0 : Option Addr) (c1_0 : Nat) (l1_0 : List Bool) (a1_1 : Bool) (w : World) (hr0_1 : Kd.C (Kd.slice 3 (Kd.int .i64)) w A0_1 l0_1.length l0_1) (hc0_1 : l0_1.length ≤ c0_1) (hr1_0 : Kd.C Kd.bool w A1_0 l1_0.length l1_0) (hc1_0 : l1_0.length ≤ c1_0) (g0_0 : goodI a0_0) (g0_1 : goodL (goodL goodI) l0_1) (g0_2 : goodI a0_2) (g1_0 : goodL (fun _ => True) l1_0) :
    Calls Try.prog 3 #[.agg #[.int .i64 a0_0, .slice A0_1 l0_1.length c0_1, .int .i64 a0_2], .agg #[.slice A1_0 l1_0.length c1_0, .bool a1_1]] w fun e w' => e = .returned (.bool true) ∧ Below w.heap.size w w' := by
  obtain ⟨u0, hu0, hc⟩ := szKeep_cases a0_0 l0_1 a0_2 1048576 (by omega) (by omega) (good2 g0_1)
  rcases hc with hc | ⟨b0, d0⟩
  · obtain ⟨Kx, fx⟩ := hu0
    exact FnExactRidesOf_short0 _ _ _ _ _ _ _ _ _ w hr0_1 hc0_1 hr1_0 hc1_0  _ _ (fx _ (Nat.le_refl _)) hc
  have nu0 : ¬ u0 < 0 := by omega
  obtain ⟨u1, hu1, hc⟩ := szBank_cases l1_0 a1_1 u0 b0 (by omega) g1_0.1
  replace hu1 := ev_some hu1
  rcases hc with hc | ⟨b1, d1⟩
  · obtain ⟨Ky0, fy0⟩ := hu0
    obtain ⟨Kx, fx⟩ := hu1
    exact FnExactRidesOf_short1 _ _ _ _ _ _ _ _ _ w hr0_1 hc0_1 hr1_0 hc1_0 _ _ (fy0 _ (Nat.le_refl _)) nu0 _ (fx _ (Nat.le_refl _)) hc
  have nu1 : ¬ u1 < 0 := by omega
  have z0_1 : n2 l0_1 ≤ 1048576 := by omega
  have z1_0 : List.length l1_0 ≤ 1048576 := by omega
  have et0 := toKeep_ev a0_0 l0_1 a0_2 z0_1
  have et1 := toBank_ev l1_0 a1_1 z1_0
  obtain ⟨rr, es, ei, hsm⟩ := FnExactRidesOf_both a0_0 l0_1 a0_2 l1_0 a1_1 z0_1 z1_0
  obtain ⟨r0, r1⟩ := rr
  dsimp only at hsm
  have s0 := hsm
  have eq0 : Ev (fun k => laws_eqIntSS.f k r0 r0) true := ev_eq (eqIntSS_ev r0 r0 s0) (decide_eq_true rfl)
  have ea0 : Ev (fun k => laws_eqKeep.f k a0_0 l0_1 a0_2 a0_0 l0_1 a0_2) true := ev_eq (eqKeep_ev a0_0 l0_1 a0_2 a0_0 l0_1 a0_2 z0_1) (decide_eq_true rfl)
  have ea1 : Ev (fun k => laws_eqBank.f k l1_0 a1_1 l1_0 a1_1) true := ev_eq (eqBank_ev l1_0 a1_1 l1_0 a1_1 z1_0) (decide_eq_true rfl)
  have ema0 := ev_some (markKeep_ev a0_0 l0_1 a0_2 (1) z0_1)
  have bma0_1 := mkSS_bound l0_1 (1) (by omega) (by omega)
  have na0_1 : ¬ (mkSS l0_1 (1)).1 < 0 := by omega
  have ema1 := markBank_ev l1_0 a1_1 ((mkSS l0_1 (1)).1) z1_0
  have bma1_0 := mkB_bound l1_0 ((mkSS l0_1 (1)).1) (by omega) (by omega)
  have na1_0 : ¬ (mkB l1_0 ((mkSS l0_1 (1)).1)).1 < 0 := by omega
  have emr0 := ev_some (markIntSS_ev r0 (1))
  have bmr0 := mkSS_bound r0 (1) (by omega) (by omega)
  have nr0 : ¬ (mkSS r0 (1)).1 < 0 := by omega
  have eh0 := heldIntSS_ev r0 (1) (by omega) (by omega) s0
  clear bma0_1 bma1_0 bmr0
  obtain ⟨Khu0, fhu0⟩ := hu0
  obtain ⟨Khu1, fhu1⟩ := hu1
  obtain ⟨Ket0, fet0⟩ := et0
  obtain ⟨Ket1, fet1⟩ := et1
  obtain ⟨Kes, fes⟩ := es
  obtain ⟨Kei, fei⟩ := ei
  obtain ⟨Keq0, feq0⟩ := eq0
  obtain ⟨Kea0, fea0⟩ := ea0
  obtain ⟨Kea1, fea1⟩ := ea1
  obtain ⟨Kema0, fema0⟩ := ema0
  obtain ⟨Kema1, fema1⟩ := ema1
  obtain ⟨Kemr0, femr0⟩ := emr0
  obtain ⟨Keh0, feh0⟩ := eh0
  exact FnExactRidesOf_walk _ _ _ _ _ _ _ _ _ _ _ _ _ _ _ _ _ _ _ Khu0 Ket0 Ket1 Kes Kei Keq0 Kea0 Kea1 Kema1 Keh0 w hr0_1 hc0_1 hr1_0 hc1_0  (fhu0 _ (Nat.le_refl _)) nu0 (fhu1 _ (Nat.le_refl _)) nu1 (fet0 _ (Nat.le_refl _)) (fet1 _ (Nat.le_refl _)) (fes _ (Nat.le_refl _)) (fei _ (Nat.le_refl _)) (feq0 _ (Nat.le_refl _)) (fea0 _ (Nat.le_refl _)) (fea1 _ (Nat.le_refl _)) (fema0 _ (Nat.le_refl _)) (fema1 _ (Nat.le_refl _)) na1_0 (femr0 _ (Nat.le_refl _)) (feh0 _ (Nat.le_refl _)) nr0
end Go.Proofs.Ytmfofjloklafoaa.Pure
