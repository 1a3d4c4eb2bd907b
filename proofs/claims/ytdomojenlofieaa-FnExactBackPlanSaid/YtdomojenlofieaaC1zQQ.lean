import Derived.Test.YtdomojenlofieaaC1zx0
import Derived.Test.YtdomojenlofieaaC1zH0
import Derived.Test.YtdomojenlofieaaC1zH1
import Derived.Test.YtdomojenlofieaaC1zx1
import Derived.Test.YtdomojenlofieaaC1zx10
import Derived.Test.YtdomojenlofieaaC1zx5
import Derived.Test.YtdomojenlofieaaC1zx9
import Derived.Test.YtdomojenlofieaaC1zx6
import Derived.Test.YtdomojenlofieaaC1zx2
import Derived.Test.YtdomojenlofieaaC1zx3
import Derived.Test.YtdomojenlofieaaC1zx4
import Derived.Test.YtdomojenlofieaaC1zx7
import Derived.Test.YtdomojenlofieaaC1zx8
import Derived.Test.YtdomojenlofieaaC1zH2
import Derived.Test.YtdomojenlofieaaC1zS
namespace Go.Proofs.Ytdomojenlofieaa.Pure
open Go.RowKit Go.Proofs.Ytdomojenlofieaa.C1 Go.Proofs.Ytdomojenlofieaa.H Go.Proofs.YtdomojenlofieaaW.PrintWords Go.Proofs.YtdomojenlofieaaW.PrintLast Go.Proofs.YtdomojenlofieaaW.PrintMore
set_option linter.unusedVariables false
set_option linter.unusedSimpArgs false
def szSum {α : Type} (f : α → Nat) : List α → Nat
  | [] => 0
  | x :: l => f x + szSum f l
def n2 (l : List (List Int)) : Nat := l.length + szSum List.length l
theorem szSum_bound {α : Type} (f : α → Nat) (l : List α) {B : Nat} (h : l.length + szSum f l ≤ B) : l.length ≤ B ∧ ∀ x ∈ l, f x ≤ B := by
  refine ⟨by omega, ?_⟩
  have h2 : szSum f l ≤ B := by omega
  clear h
  induction l with
  | nil => intro x hx; cases hx
  | cons y l ih =>
    simp only [szSum] at h2
    intro x hx
    rcases List.mem_cons.1 hx with rfl | hx
    · omega
    · exact ih (by omega) x hx
theorem mkS_bound (l : List Int) : ∀ a : Int, 0 ≤ a → a + l.length ≤ 1000000000000000 → a ≤ (mkS l a).1 ∧ (mkS l a).1 ≤ a + l.length := by
  induction l with
  | nil => intro a _ _; simp [mkS]
  | cons x l ih =>
    intro a h0 h1
    simp only [List.length_cons] at h1
    simp only [mkS]
    rw [wr_id (by omega) (by omega)]
    have := ih (a + 1) (by omega) (by omega)
    simp only [List.length_cons]
    omega
theorem mkS_len (l : List Int) : ∀ a : Int, (mkS l a).2.length = l.length := by
  induction l with
  | nil => intro a; rfl
  | cons x l ih => intro a; simp only [mkS, List.length_cons]; rw [ih]
theorem mkSS_len (l : List (List Int)) : ∀ a : Int, (mkSS l a).2.length = l.length := by
  induction l with
  | nil => intro a; rfl
  | cons x l ih => intro a; simp only [mkSS, List.length_cons]; rw [ih]
theorem mkSS_bound' (l : List (List Int)) : ∀ a : Int, 0 ≤ a → a + szSum List.length l ≤ 1000000000000000 → a ≤ (mkSS l a).1 ∧ (mkSS l a).1 ≤ a + szSum List.length l := by
  induction l with
  | nil => intro a _ _; simp [mkSS, szSum]
  | cons x l ih =>
    intro a h0 h1
    simp only [szSum] at h1
    have h2 := mkS_bound x a h0 (by omega)
    have := ih (mkS x a).1 (by omega) (by omega)
    simp only [mkSS, szSum]
    omega
theorem mkSS_bound (l : List (List Int)) (a : Int) (h0 : 0 ≤ a) (ha : a + n2 l ≤ 1000000000000000) : a ≤ (mkSS l a).1 ∧ (mkSS l a).1 ≤ a + n2 l := by
  simp only [n2] at ha ⊢
  have := mkSS_bound' l a h0 (by omega)
  omega
end Go.Proofs.Ytdomojenlofieaa.Pure

namespace Go.Proofs.Ytdomojenlofieaa.Pure
open Go.RowKit Go.Proofs.Ytdomojenlofieaa.C1 Go.Proofs.Ytdomojenlofieaa.H Go.Proofs.YtdomojenlofieaaW.PrintWords Go.Proofs.YtdomojenlofieaaW.PrintLast Go.Proofs.YtdomojenlofieaaW.PrintMore
set_option linter.unusedVariables false
set_option linter.unusedSimpArgs false
def goodIntS (l : List Int) : Prop := l.length ≤ 9223372036854775807
theorem szIntS_cases (l : List Int) (a : Int) (h0 : 0 ≤ a) (ha : a ≤ 1048576) (hg : goodIntS l) : ∃ t, laws_szIntS.f l a = some t ∧ (t < 0 ∨ (0 ≤ t ∧ t + (l.length : Int) ≤ a)) := by
  have hl : l.length ≤ 9223372036854775807 := hg
  unfold laws_szIntS.f
  rw [wr_id (by omega) (by omega)]
  by_cases h : a - (l.length : Int) < 0
  · exact ⟨-1, by rw [if_pos h], .inl (by omega)⟩
  · exact ⟨_, by rw [if_neg h], .inr ⟨by omega, by omega⟩⟩
theorem toIntS_loop (x0 : List Int) : ∀ (r pre suf : List Int), x0 = pre ++ r → suf.length = r.length → x0.length ≤ 9223372036854775807 → Ev (fun k => laws_toIntS.l0 k x0 (pre ++ suf) (pre.length : Int)) x0 := by
  intro r
  induction r with
  | nil =>
    intro pre suf e hs hl
    obtain rfl : suf = [] := List.eq_nil_of_length_eq_zero hs
    subst e
    refine Ev.step (f := fun _ => some _) (fun k => ?_) (Ev.now _)
    simp only [laws_toIntS.l0]
    rw [if_neg (nlt_end pre)]
  | cons x r ih =>
    intro pre suf e hs hl
    match suf, hs with
    | y :: suf, hs =>
      subst e
      refine Ev.step (fun k => ?_) (ev_eq (ih (pre ++ [x]) suf (by simp) (by simpa using hs) hl) rfl)
      simp only [laws_toIntS.l0]
      rw [if_pos (lt_mid pre x r), if_pos (zle _), if_pos (lt_mid pre y suf), rd_mid, set_mid, wr_mid pre x r hl, app_mid pre x suf]
theorem toIntS_ev (l : List Int) (hl : l.length ≤ 1048576) : Ev (fun k => laws_toIntS.f k l) l := by
  unfold laws_toIntS.f
  simp only [if_pos (zle l.length), if_pos (show ((l.length : Int)).toNat ≤ 35184372088832 by omega)]
  exact toIntS_loop l l [] _ rfl (by simp) (by omega)
theorem markIntS_loop : ∀ (r pre : List Int) (a : Int), (pre ++ r).length ≤ 9223372036854775807 → Ev (fun k => laws_markIntS.l0 k (pre ++ r) a (pre.length : Int)) ((mkS r a).1, pre ++ (mkS r a).2) := by
  intro r
  induction r with
  | nil =>
    intro pre a hl
    refine Ev.step (f := fun _ => some _) (fun k => ?_) (Ev.now _)
    simp only [laws_markIntS.l0]
    rw [if_neg (nlt_end pre)]
    rfl
  | cons x r ih =>
    intro pre a hl
    refine Ev.step (fun k => ?_) (ev_eq (ih (pre ++ [a]) (wrap64 (a + 1)) (by simpa using hl)) (by simp [mkS]))
    simp only [laws_markIntS.l0]
    rw [if_pos (lt_mid pre x r), if_pos (zle _), set_mid, wr_mid pre x r hl, app_mid pre (a) r]
    simp
theorem markIntS_ev (l : List Int) (a : Int) (hl : l.length ≤ 1048576) : Ev (fun k => laws_markIntS.f k l a) (mkS l a) := markIntS_loop l [] a (by simp; omega)
theorem eqIntS_loop : ∀ (r s pre qre : List Int), pre.length = qre.length → r.length = s.length → (pre ++ r).length ≤ 9223372036854775807 → Ev (fun k => laws_eqIntS.l0 k (pre ++ r) (qre ++ s) (pre.length : Int)) (decide (r = s)) := by
  intro r
  induction r with
  | nil =>
    intro s pre qre hp hs hl
    obtain rfl : s = [] := List.eq_nil_of_length_eq_zero hs.symm
    refine Ev.step (f := fun _ => some _) (fun k => ?_) (Ev.now _)
    simp only [laws_eqIntS.l0]
    rw [if_neg (nlt_end pre)]
    rfl
  | cons x r ih =>
    intro s pre qre hp hs hl
    match s, hs with
    | y :: s, hs =>
      by_cases e : x = y
      · subst e
        refine Ev.step (fun k => ?_) (ev_eq (ih s (pre ++ [x]) (qre ++ [x]) (by simp [hp]) (by simpa using hs) (by simpa using hl)) (by simp))
        simp only [laws_eqIntS.l0]
        rw [if_pos (lt_mid pre x r), if_pos (zle _), if_pos (by rw [hp]; exact lt_mid qre x s), rd_mid, hp, rd_mid, if_pos rfl, ← hp, wr_mid pre x r hl, app_mid pre x r, app_mid qre x s]
      · refine Ev.step (f := fun _ => some _) (fun k => ?_) (Ev.now _)
        simp only [laws_eqIntS.l0]
        rw [if_pos (lt_mid pre x r), if_pos (zle _), if_pos (by rw [hp]; exact lt_mid qre y s), rd_mid, hp, rd_mid, if_neg e]
        simp [e]
theorem eqIntS_ev (l s : List Int) (hl : l.length ≤ 1048576) : Ev (fun k => laws_eqIntS.f k l s) (decide (l = s)) := by
  unfold laws_eqIntS.f
  by_cases h : l.length = s.length
  · simp only [if_pos (show (l.length : Int) = (s.length : Int) by omega)]
    exact eqIntS_loop l s [] [] rfl h (by simp; omega)
  · simp only [if_neg (show ¬ (l.length : Int) = (s.length : Int) by omega)]
    refine ev_eq (Ev.now _) ?_
    have : l ≠ s := fun e => h (by rw [e])
    simp [this]
theorem heldIntS_loop : ∀ (r pre : List Int) (a : Int), (pre ++ r).length ≤ 9223372036854775807 → Ev (fun k => laws_heldIntS.l0 k (pre ++ (mkS r a).2) a (pre.length : Int)) (mkS r a).1 := by
  intro r
  induction r with
  | nil =>
    intro pre a hl
    refine Ev.step (f := fun _ => some a) (fun k => ?_) (Ev.now _)
    show laws_heldIntS.l0 (k + 1) (pre ++ []) a (pre.length : Int) = some a
    simp only [laws_heldIntS.l0]
    rw [if_neg (nlt_end pre)]
  | cons x r ih =>
    intro pre a hl
    refine Ev.step (fun k => ?_) (ev_eq (ih (pre ++ [a]) (wrap64 (a + 1)) (by simpa using hl)) (by simp [mkS]))
    show laws_heldIntS.l0 (k + 1) (pre ++ (a) :: (mkS r (wrap64 (a + 1))).2) a (pre.length : Int) = _
    simp only [laws_heldIntS.l0]
    rw [if_pos (lt_mid pre (a) _), if_pos (zle _), rd_mid, if_pos rfl, wr_mid pre (a) _ (by simp [mkS_len] at hl ⊢; omega), app_mid pre (a)]
theorem heldIntS_ev (l : List Int) (a : Int) (h0 : 0 ≤ a) (ha : a + l.length ≤ 1000000000000000) (hl : l.length ≤ 1048576) : Ev (fun k => laws_heldIntS.f k (mkS l a).2 a) (mkS l a).1 := heldIntS_loop l [] a (by simp; omega)
theorem rd_L2_mid (pre : List (List Int)) (x : List Int) (r : List (List Int)) : rd_L1 (pre ++ x :: r) (pre.length : Int) = x := by simp [rd_L1]
theorem szIntSS_loop : ∀ (r pre : List (List Int)) (a : Int), 0 ≤ a → a ≤ 1048576 → (pre ++ r).length ≤ 9223372036854775807 → (∀ x ∈ r, goodIntS x) → ∃ t, Ev (fun k => laws_szIntSS.l0 k (pre ++ r) a (pre.length : Int)) t ∧ (t < 0 ∨ (0 ≤ t ∧ t + (szSum List.length r : Int) ≤ a)) := by
  intro r
  induction r with
  | nil =>
    intro pre a h0 ha hl hg
    refine ⟨a, ?_, .inr ⟨h0, by simp [szSum]⟩⟩
    refine Ev.step (f := fun _ => some a) (fun k => ?_) (Ev.now _)
    simp only [laws_szIntSS.l0]
    rw [if_neg (nlt_end pre)]
  | cons x r ih =>
    intro pre a h0 ha hl hg
    obtain ⟨t, ht, hc⟩ := szIntS_cases x a h0 ha (hg x (by simp))
    have hE : Ev (fun k => laws_szIntS.f x a) t := ev_some ht
    rcases hc with hc | ⟨hc0, hc1⟩
    · refine ⟨-1, Ev.step (f := fun k => (laws_szIntS.f x a).bind fun t => if t < 0 then some (-1) else laws_szIntSS.l0 k (pre ++ x :: r) t (wrap64 ((pre.length : Int) + 1))) (fun k => ?_) (Ev.bind hE ?_), .inl (by omega)⟩
      · simp only [laws_szIntSS.l0]
        rw [if_pos (lt_mid pre x r), if_pos (zle _), rd_L2_mid]
      · simp only [if_pos hc]
        exact Ev.now _
    · obtain ⟨t2, ht2, h2⟩ := ih (pre ++ [x]) t hc0 (by omega) (by simpa using hl) (fun y hy => hg y (by simp [hy]))
      refine ⟨t2, Ev.step (f := fun k => (laws_szIntS.f x a).bind fun t => if t < 0 then some (-1) else laws_szIntSS.l0 k (pre ++ x :: r) t (wrap64 ((pre.length : Int) + 1))) (fun k => ?_) (Ev.bind hE ?_), ?_⟩
      · simp only [laws_szIntSS.l0]
        rw [if_pos (lt_mid pre x r), if_pos (zle _), rd_L2_mid]
      · simp only [if_neg (show ¬ t < 0 by omega)]
        rw [wr_mid pre x r hl, app_mid pre x r]
        exact ht2
      · rcases h2 with h2 | ⟨h2, h3⟩
        · exact .inl h2
        · exact .inr ⟨h2, by simp only [szSum]; omega⟩
def goodIntSS (l : List (List Int)) : Prop := l.length ≤ 9223372036854775807 ∧ ∀ x ∈ l, goodIntS x
theorem szIntSS_cases (l : List (List Int)) (a : Int) (h0 : 0 ≤ a) (ha : a ≤ 1048576) (hg : goodIntSS l) : ∃ t, Ev (fun k => laws_szIntSS.f k l a) t ∧ (t < 0 ∨ (0 ≤ t ∧ t + (n2 l : Int) ≤ a)) := by
  have hl := hg.1
  unfold laws_szIntSS.f
  rw [wr_id (by omega) (by omega)]
  by_cases h : a - (l.length : Int) < 0
  · exact ⟨-1, by simp only [if_pos h]; exact Ev.now _, .inl (by omega)⟩
  · obtain ⟨t, ht, hc⟩ := szIntSS_loop l [] (a - l.length) (by omega) (by omega) hl hg.2
    refine ⟨t, by simp only [if_neg h]; exact ht, ?_⟩
    rcases hc with hc | ⟨h1, h2⟩
    · exact .inl hc
    · exact .inr ⟨h1, by simp only [n2]; omega⟩
theorem toIntSS_loop (x0 : List (List Int)) (hx : ∀ x ∈ x0, List.length x ≤ 1048576) : ∀ (r pre suf : List (List Int)), x0 = pre ++ r → suf.length = r.length → x0.length ≤ 9223372036854775807 → Ev (fun k => laws_toIntSS.l0 k x0 (pre ++ suf) (pre.length : Int)) x0 := by
  intro r
  induction r with
  | nil =>
    intro pre suf e hs hl
    obtain rfl : suf = [] := List.eq_nil_of_length_eq_zero hs
    subst e
    refine Ev.step (f := fun _ => some _) (fun k => ?_) (Ev.now _)
    simp only [laws_toIntSS.l0]
    rw [if_neg (nlt_end pre)]
  | cons x r ih =>
    intro pre suf e hs hl
    match suf, hs with
    | y :: suf, hs =>
      subst e
      refine Ev.step (f := fun k => (laws_toIntS.f k x).bind fun t => if (pre.length : Int) < ((pre ++ y :: suf).length : Int) then laws_toIntSS.l0 k (pre ++ x :: r) ((pre ++ y :: suf).set ((pre.length : Int)).toNat t) (wrap64 ((pre.length : Int) + 1)) else none) (fun k => ?_) (Ev.bind (toIntS_ev x (hx x (by simp))) ?_)
      · simp only [laws_toIntSS.l0]
        rw [if_pos (lt_mid pre x r), if_pos (zle _), rd_L2_mid]
      · simp only [if_pos (lt_mid pre y suf)]
        rw [set_mid, wr_mid pre x r hl, app_mid pre x suf]
        exact ih (pre ++ [x]) suf (by simp) (by simpa using hs) hl
theorem toIntSS_ev (l : List (List Int)) (hl : n2 l ≤ 1048576) : Ev (fun k => laws_toIntSS.f k l) l := by
  have h1 := szSum_bound List.length l (by simpa only [n2] using hl)
  unfold laws_toIntSS.f
  simp only [if_pos (zle l.length), if_pos (show ((l.length : Int)).toNat ≤ 11728124029610 by omega)]
  exact toIntSS_loop l h1.2 l [] _ rfl (by simp) (by omega)
theorem eqIntSS_loop : ∀ (r s pre qre : List (List Int)), pre.length = qre.length → r.length = s.length → (pre ++ r).length ≤ 9223372036854775807 → (∀ x ∈ r, List.length x ≤ 1048576) → Ev (fun k => laws_eqIntSS.l0 k (pre ++ r) (qre ++ s) (pre.length : Int)) (decide (r = s)) := by
  intro r
  induction r with
  | nil =>
    intro s pre qre hp hs hl hx
    obtain rfl : s = [] := List.eq_nil_of_length_eq_zero hs.symm
    refine Ev.step (f := fun _ => some _) (fun k => ?_) (Ev.now _)
    simp only [laws_eqIntSS.l0]
    rw [if_neg (nlt_end pre)]
    rfl
  | cons x r ih =>
    intro s pre qre hp hs hl hx
    match s, hs with
    | y :: s, hs =>
      refine Ev.step (f := fun k => (laws_eqIntS.f k x y).bind fun t => if t = true then laws_eqIntSS.l0 k (pre ++ x :: r) (qre ++ y :: s) (wrap64 ((pre.length : Int) + 1)) else some false) (fun k => ?_) (Ev.bind (eqIntS_ev x y (hx x (by simp))) ?_)
      · simp only [laws_eqIntSS.l0]
        rw [if_pos (lt_mid pre x r), if_pos (zle _), if_pos (by rw [hp]; exact lt_mid qre y s), rd_L2_mid, hp, rd_L2_mid, ← hp]
      · by_cases e : x = y
        · subst e
          simp only [decide_true, if_true]
          rw [wr_mid pre x r hl, app_mid pre x r, app_mid qre x s]
          exact ev_eq (ih s (pre ++ [x]) (qre ++ [x]) (by simp [hp]) (by simpa using hs) (by simpa using hl) (fun y hy => hx y (by simp [hy]))) (by simp)
        · simp only [decide_eq_false e, if_neg Bool.false_ne_true]
          exact ev_eq (Ev.now _) (by simp [e])
theorem eqIntSS_ev (l s : List (List Int)) (hl : n2 l ≤ 1048576) : Ev (fun k => laws_eqIntSS.f k l s) (decide (l = s)) := by
  have h1 := szSum_bound List.length l (by simpa only [n2] using hl)
  unfold laws_eqIntSS.f
  by_cases h : l.length = s.length
  · simp only [if_pos (show (l.length : Int) = (s.length : Int) by omega)]
    exact eqIntSS_loop l s [] [] rfl h (by simp; omega) h1.2
  · simp only [if_neg (show ¬ (l.length : Int) = (s.length : Int) by omega)]
    refine ev_eq (Ev.now _) ?_
    have : l ≠ s := fun e => h (by rw [e])
    simp [this]
theorem heldIntSS_loop : ∀ (r pre : List (List Int)) (a : Int), 0 ≤ a → a + szSum List.length r ≤ 1000000000000000 → (pre ++ r).length ≤ 9223372036854775807 → (∀ x ∈ r, List.length x ≤ 1048576) → Ev (fun k => laws_heldIntSS.l0 k (pre ++ (mkSS r a).2) a (pre.length : Int)) (mkSS r a).1 := by
  intro r
  induction r with
  | nil =>
    intro pre a h0 ha hl hx
    refine Ev.step (f := fun _ => some a) (fun k => ?_) (Ev.now _)
    show laws_heldIntSS.l0 (k + 1) (pre ++ []) a (pre.length : Int) = some a
    simp only [laws_heldIntSS.l0]
    rw [if_neg (nlt_end pre)]
  | cons x r ih =>
    intro pre a h0 ha hl hx
    simp only [szSum] at ha
    have hb := mkS_bound x a h0 (by omega)
    refine Ev.step (f := fun k => (laws_heldIntS.f k (mkS x a).2 a).bind fun t => if t < 0 then some (-1) else laws_heldIntSS.l0 k (pre ++ (mkS x a).2 :: (mkSS r (mkS x a).1).2) t (wrap64 ((pre.length : Int) + 1))) (fun k => ?_) (Ev.bind (heldIntS_ev x a h0 (by omega) (hx x (by simp))) ?_)
    · show laws_heldIntSS.l0 (k + 1) (pre ++ (mkS x a).2 :: (mkSS r (mkS x a).1).2) a (pre.length : Int) = _
      simp only [laws_heldIntSS.l0]
      rw [if_pos (lt_mid pre _ _), if_pos (zle _), rd_L2_mid]
    · simp only [if_neg (show ¬ (mkS x a).1 < 0 by omega)]
      rw [wr_mid pre _ _ (by simp [mkSS_len] at hl ⊢; omega), app_mid pre]
      exact ih (pre ++ [_]) _ (by omega) (by omega) (by simpa using hl) (fun y hy => hx y (by simp [hy]))
theorem heldIntSS_ev (l : List (List Int)) (a : Int) (h0 : 0 ≤ a) (ha : a + n2 l ≤ 1000000000000000) (hl : n2 l ≤ 1048576) : Ev (fun k => laws_heldIntSS.f k (mkSS l a).2 a) (mkSS l a).1 := by
  have h1 := szSum_bound List.length l (by simpa only [n2] using hl)
  exact heldIntSS_loop l [] a h0 (by simp only [n2] at ha; omega) (by simp; omega) h1.2
theorem good2 {l : List (List Int)} (h : goodL (goodL goodI) l) : goodIntSS l := ⟨h.1, fun x hx => (h.2 x hx).1⟩
theorem markIntSS_ev (l : List (List Int)) (a : Int) : laws_markIntSS.f l a = some (mkSS l a) := rfl
theorem szParty_cases (f0 : List Int) (f1 : Int) (a : Int) (h0 : 0 ≤ a) (ha : a ≤ 1048576) (g0 : goodIntS f0) : ∃ t, laws_szParty.f f0 f1 a = some t ∧ (t < 0 ∨ (0 ≤ t ∧ t + (List.length f0 : Int) ≤ a)) := by
  unfold laws_szParty.f
  obtain ⟨t0, e0, hc⟩ := szIntS_cases f0 a h0 ha g0
  rcases hc with hc | ⟨b0, c0⟩
  · exact ⟨-1, by simp [e0, hc], .inl (by omega)⟩
  exact ⟨t0, by simp [e0, show ¬ t0 < 0 by omega], .inr ⟨b0, by omega⟩⟩
theorem toParty_ev (f0 : List Int) (f1 : Int) (h0 : List.length f0 ≤ 1048576) : Ev (fun k => laws_toParty.f k f0 f1) (f0, f1) := Ev.bind (toIntS_ev f0 h0) (Ev.now _)
theorem eqParty_ev (f0 : List Int) (f1 : Int) (s0 : List Int) (s1 : Int) (h0 : List.length f0 ≤ 1048576) : Ev (fun k => laws_eqParty.f k f0 f1 s0 s1) (decide ((f0, f1) = (s0, s1))) := by
  obtain ⟨K0, e0⟩ := eqIntS_ev f0 s0 h0
  refine ⟨K0, fun k hk => ?_⟩
  unfold laws_eqParty.f
  simp only [e0 k (by omega), Option.bind_some]
  by_cases q0 : f0 = s0 <;> try simp only [q0, decide_true, decide_false, if_true, if_false, Bool.false_eq_true, beq_self_eq_true]
  by_cases q1 : f1 = s1 <;> try simp only [q1, decide_true, decide_false, if_true, if_false, Bool.false_eq_true, beq_self_eq_true]
  all_goals simp_all
theorem markParty_ev (f0 : List Int) (f1 : Int) (a : Int) (h0 : List.length f0 ≤ 1048576) : Ev (fun k => laws_markParty.f k f0 f1 a) ((mkS f0 (a)).1, (mkS f0 (a)).2) := Ev.bind (markIntS_ev f0 (a) h0) (Ev.now _)
end Go.Proofs.Ytdomojenlofieaa.Pure

namespace Go.Proofs.Ytdomojenlofieaa.Pure
open Go.RowKit Go.Proofs.Ytdomojenlofieaa.C1 Go.Proofs.Ytdomojenlofieaa.H Go.Proofs.YtdomojenlofieaaW.PrintWords Go.Proofs.YtdomojenlofieaaW.PrintLast Go.Proofs.YtdomojenlofieaaW.PrintMore
set_option linter.unusedVariables false
set_option linter.unusedSimpArgs false
theorem in_eq (a b c : Int) : impl_in.f a b c = some (inB b c a) := by
  unfold impl_in.f inB
  by_cases h : b ≤ a <;> simp [h]
theorem l1In_eq (a b c : Int) : spec_l1In.f a b c = some (inB b c a) := by
  unfold spec_l1In.f inB
  by_cases h : b ≤ a <;> simp [h]
theorem areIn_eq (l : List Int) (a b c d : Int) : impl_areIn.f l a b c d = some (inB c d (l.length : Int) && l.all (inB a b)) := rfl
theorem l1All_loop (a b : Int) : ∀ (r pre : List Int), (pre ++ r).length ≤ 9223372036854775807 → Ev (fun k => spec_l1All.l0 k a b (pre ++ r) ((pre ++ r).length : Int) (pre.length : Int)) (r.all (inB a b)) := by
  intro r
  induction r with
  | nil =>
    intro pre hl
    refine Ev.step (f := fun _ => some true) (fun k => ?_) (Ev.now _)
    simp only [spec_l1All.l0]
    rw [if_neg (nlt_end pre)]
  | cons x r ih =>
    intro pre hl
    cases hx : inB a b x with
    | true =>
      refine Ev.step (fun k => ?_) (ev_eq (ih (pre ++ [x]) (by simpa using hl)) (by simp [hx]))
      simp only [spec_l1All.l0]
      rw [if_pos (lt_mid pre x r), if_pos (zle _), if_pos (lt_mid pre x r), rd_mid, l1In_eq, hx, Option.bind_some, if_pos rfl, wr_mid pre x r hl, app_mid pre x r]
    | false =>
      refine Ev.step (f := fun _ => some false) (fun k => ?_) (ev_eq (Ev.now _) (by simp [hx]))
      simp only [spec_l1All.l0]
      rw [if_pos (lt_mid pre x r), if_pos (zle _), if_pos (lt_mid pre x r), rd_mid, l1In_eq, hx, Option.bind_some, if_neg (by simp)]
theorem l1All_ev (l : List Int) (a b : Int) (hl : l.length ≤ 9223372036854775807) : Ev (fun k => spec_l1All.f k l a b) (l.all (inB a b)) := l1All_loop a b l [] hl
end Go.Proofs.Ytdomojenlofieaa.Pure

namespace Go.Proofs.Ytdomojenlofieaa.Pure
open Go.RowKit Go.Proofs.Ytdomojenlofieaa.C1 Go.Proofs.Ytdomojenlofieaa.H Go.Proofs.YtdomojenlofieaaW.PrintWords Go.Proofs.YtdomojenlofieaaW.PrintLast Go.Proofs.YtdomojenlofieaaW.PrintMore
set_option linter.unusedVariables false
set_option linter.unusedSimpArgs false
def risF (p : Int) : List Int → Bool
  | [] => true
  | y :: r => decide (p < y) && risF y r
def risP : List Int → Bool
  | [] => true
  | x :: r => risF x r
def tripP (n : Nat) (s : Int) (t : List Int) : Bool := inB 1 s (t.length : Int) && t.all (inB 0 ((n : Int) - 1)) && risP t
theorem rd_mid1 (pre : List Int) (p y : Int) (r : List Int) : rd (pre ++ p :: y :: r) ((pre.length : Int) + 1) = y := by
  have h : ((pre.length : Int) + 1).toNat = pre.length + 1 := by omega
  simp [rd, h]
theorem lt_mid1 (pre : List Int) (p y : Int) (r : List Int) : (pre.length : Int) + 1 < ((pre ++ p :: y :: r).length : Int) := by simp; omega
theorem nlt_end1 (pre : List Int) (p : Int) : ¬ (pre.length : Int) + 1 < ((pre ++ p :: ([] : List Int)).length : Int) := by simp
theorem wr_mid1 (pre : List Int) (p y : Int) (r : List Int) (h : (pre ++ p :: y :: r).length ≤ 9223372036854775807) : wrap64 ((pre.length : Int) + 1 + 1) = ((pre ++ [p]).length : Int) + 1 := by
  simp only [List.length_append, List.length_cons] at h
  rw [wr_id (by omega) (by omega)]
  simp
theorem wr_pred (pre : List Int) (h : pre.length ≤ 9223372036854775806) : wrap64 ((pre.length : Int) + 1 - 1) = (pre.length : Int) := by
  rw [wr_id (by omega) (by omega)]
  omega
theorem rising_cat (pre : List Int) (p : Int) (r : List Int) : pre ++ p :: r = (pre ++ [p]) ++ r := by simp
theorem rises_loop : ∀ (r pre : List Int) (p : Int), (pre ++ p :: r).length ≤ 9223372036854775807 → Ev (fun k => impl_rises.l0 k (pre ++ p :: r) ((pre.length : Int) + 1)) (risF p r) := by
  intro r
  induction r with
  | nil =>
    intro pre p hl
    refine Ev.step (f := fun _ => some true) (fun k => ?_) (Ev.now _)
    simp only [impl_rises.l0]
    rw [if_neg (nlt_end1 pre p)]
  | cons y r ih =>
    intro pre p hl
    have hl' := hl
    simp only [List.length_append, List.length_cons] at hl'
    by_cases c : p < y
    · refine Ev.step (fun k => ?_) (ev_eq (ih (pre ++ [p]) y (by simpa using hl)) (by simp [risF, c]))
      simp only [impl_rises.l0]
      rw [if_pos (lt_mid1 pre p y r), if_pos (by omega), wr_pred pre (by omega), if_pos (zle _), if_pos (lt_mid pre p (y :: r)), rd_mid1, rd_mid, if_neg (by omega), wr_mid1 pre p y r hl, rising_cat pre p (y :: r)]
    · refine Ev.step (f := fun _ => some false) (fun k => ?_) (ev_eq (Ev.now _) (by simp [risF, c]))
      simp only [impl_rises.l0]
      rw [if_pos (lt_mid1 pre p y r), if_pos (by omega), wr_pred pre (by omega), if_pos (zle _), if_pos (lt_mid pre p (y :: r)), rd_mid1, rd_mid, if_pos (by omega)]
theorem rises_ev (l : List Int) (hl : l.length ≤ 9223372036854775807) : Ev (fun k => impl_rises.f k l) (risP l) := by
  cases l with
  | nil =>
    refine Ev.step (f := fun _ => some true) (fun k => ?_) (Ev.now _)
    simp [impl_rises.f, impl_rises.l0]
  | cons x r => exact rises_loop r [] x hl
theorem l1Rising_loop (lo hi : Int) : ∀ (r pre : List Int) (p : Int), (pre ++ p :: r).length ≤ 9223372036854775807 → Ev (fun k => spec_l1Rising.l0 k (pre ++ p :: r) lo hi (pre ++ p :: r) ((pre ++ p :: r).length : Int) ((pre.length : Int) + 1)) (r.all (inB lo hi) && risF p r) := by
  intro r
  induction r with
  | nil =>
    intro pre p hl
    refine Ev.step (f := fun _ => some true) (fun k => ?_) (Ev.now _)
    simp only [spec_l1Rising.l0]
    rw [if_neg (nlt_end1 pre p)]
  | cons y r ih =>
    intro pre p hl
    have hl' := hl
    simp only [List.length_append, List.length_cons] at hl'
    cases hy : inB lo hi y with
    | false =>
      refine Ev.step (f := fun _ => some false) (fun k => ?_) (ev_eq (Ev.now _) (by simp [hy]))
      simp only [spec_l1Rising.l0]
      rw [if_pos (lt_mid1 pre p y r), if_pos (by omega), if_pos (lt_mid1 pre p y r), rd_mid1, l1In_eq, hy, Option.bind_some, if_neg (by simp)]
    | true =>
      by_cases c : p < y
      · refine Ev.step (fun k => ?_) (ev_eq (ih (pre ++ [p]) y (by simpa using hl)) (by simp [risF, c, hy]))
        simp only [spec_l1Rising.l0]
        rw [if_pos (lt_mid1 pre p y r), if_pos (by omega), if_pos (lt_mid1 pre p y r), rd_mid1, l1In_eq, hy, Option.bind_some, if_pos rfl, if_pos (by omega), wr_pred pre (by omega), if_pos (zle _), if_pos (lt_mid pre p (y :: r)), rd_mid, if_neg (by omega), wr_mid1 pre p y r hl, rising_cat pre p (y :: r)]
      · refine Ev.step (f := fun _ => some false) (fun k => ?_) (ev_eq (Ev.now _) (by simp [risF, c]))
        simp only [spec_l1Rising.l0]
        rw [if_pos (lt_mid1 pre p y r), if_pos (by omega), if_pos (lt_mid1 pre p y r), rd_mid1, l1In_eq, hy, Option.bind_some, if_pos rfl, if_pos (by omega), wr_pred pre (by omega), if_pos (zle _), if_pos (lt_mid pre p (y :: r)), rd_mid, if_pos (by omega)]
theorem l1Rising_ev (l : List Int) (lo hi : Int) (hl : l.length ≤ 9223372036854775807) : Ev (fun k => spec_l1Rising.f k l lo hi) (l.all (inB lo hi) && risP l) := by
  cases l with
  | nil =>
    refine Ev.step (f := fun _ => some true) (fun k => ?_) (Ev.now _)
    simp [spec_l1Rising.f, spec_l1Rising.l0]
  | cons x r =>
    cases hx : inB lo hi x with
    | false =>
      refine Ev.step (f := fun _ => some false) (fun k => ?_) (ev_eq (Ev.now _) (by simp [hx]))
      simp only [spec_l1Rising.f, spec_l1Rising.l0]
      rw [if_pos (show (0 : Int) < ((x :: r).length : Int) by simp only [List.length_cons]; omega), if_pos (Int.le_refl _), if_pos (show (0 : Int) < ((x :: r).length : Int) by simp only [List.length_cons]; omega), show rd (x :: r) 0 = x from rfl, l1In_eq, hx, Option.bind_some, if_neg (by simp)]
    | true =>
      refine Ev.step (fun k => ?_) (ev_eq (l1Rising_loop lo hi r [] x hl) (by simp [hx, risP]))
      simp only [spec_l1Rising.f, spec_l1Rising.l0]
      rw [if_pos (show (0 : Int) < ((x :: r).length : Int) by simp only [List.length_cons]; omega), if_pos (Int.le_refl _), if_pos (show (0 : Int) < ((x :: r).length : Int) by simp only [List.length_cons]; omega), show rd (x :: r) 0 = x from rfl, l1In_eq, hx, Option.bind_some, if_pos rfl, if_neg (by omega), show wrap64 (0 + 1) = ((([] : List Int).length : Int) + 1) from wr_id (by omega) (by omega)]
      rfl
end Go.Proofs.Ytdomojenlofieaa.Pure

namespace Go.Proofs.Ytdomojenlofieaa.Pure
open Go.RowKit Go.Proofs.Ytdomojenlofieaa.C1 Go.Proofs.Ytdomojenlofieaa.H Go.Proofs.YtdomojenlofieaaW.PrintWords Go.Proofs.YtdomojenlofieaaW.PrintLast Go.Proofs.YtdomojenlofieaaW.PrintMore
set_option linter.unusedVariables false
set_option linter.unusedSimpArgs false
def goodP (l : List Int) (s : Int) : Bool := inB 1 8 (l.length : Int) && l.all (inB 1 1000) && inB 1 3 s
theorem goodP_len {l : List Int} {s : Int} (h : goodP l s = true) : l.length ≤ 8 := by
  unfold goodP at h
  simp only [Bool.and_eq_true] at h
  have := h.1.1
  simp only [inB, Bool.and_eq_true, decide_eq_true_eq] at this
  omega
theorem isParty_eq (l : List Int) (s : Int) : impl_IsParty.f l s = some (goodP l s) := by
  unfold impl_IsParty.f goodP
  rw [areIn_eq, in_eq]
  cases inB 1 8 (l.length : Int) <;> cases l.all (inB 1 1000) <;> cases inB 1 3 s <;> rfl
theorem paGood_ev (l : List Int) (s : Int) (hl : l.length ≤ 1048576) : Ev (fun k => spec_paGood.f k l s) (goodP l s) := by
  obtain ⟨K, e⟩ := l1All_ev l 1 1000 (by omega)
  refine ⟨K, fun k hk => ?_⟩
  unfold spec_paGood.f goodP
  simp only [l1In_eq, e k hk, Option.bind_some]
  cases inB 1 8 (l.length : Int) <;> cases l.all (inB 1 1000) <;> cases inB 1 3 s <;> rfl
theorem isTrip_ev (l : List Int) (s : Int) (t : List Int) (hl : l.length ≤ 1048576) (ht : t.length ≤ 1048576) : Ev (fun k => impl_Party_isTrip.f k l s t) (tripP l.length s t) := by
  obtain ⟨K, e⟩ := rises_ev t (by omega)
  refine ⟨K, fun k hk => ?_⟩
  unfold impl_Party_isTrip.f tripP
  simp only [areIn_eq, e k hk, Option.bind_some, wr_id (show -9223372036854775808 ≤ (l.length : Int) - 1 by omega) (by omega)]
  cases inB 1 s (t.length : Int) <;> cases t.all (inB 0 ((l.length : Int) - 1)) <;> cases risP t <;> rfl
theorem paTrip_ev (l : List Int) (s : Int) (t : List Int) (hl : l.length ≤ 1048576) (ht : t.length ≤ 1048576) : Ev (fun k => spec_paTrip.f k l s t) (tripP l.length s t) := by
  obtain ⟨K, e⟩ := l1Rising_ev t 0 ((l.length : Int) - 1) (by omega)
  refine ⟨K, fun k hk => ?_⟩
  unfold spec_paTrip.f tripP
  simp only [l1In_eq, wr_id (show -9223372036854775808 ≤ (l.length : Int) - 1 by omega) (by omega), e k hk, Option.bind_some]
  cases inB 1 s (t.length : Int) <;> cases t.all (inB 0 ((l.length : Int) - 1)) <;> cases risP t <;> rfl
def canP (n : Nat) (s : Int) (st : List Bool) (b : Bool) (t : List Int) : Bool := tripP n s t && t.all fun x => rdOf false st x == b
theorem tripP_in {n : Nat} {s : Int} {t : List Int} (h : tripP n s t = true) : ∀ x ∈ t, 0 ≤ x ∧ x < (n : Int) := by
  unfold tripP at h
  simp only [Bool.and_eq_true, List.all_eq_true] at h
  intro x hx
  have := h.1.2 x hx
  simp only [inB, Bool.and_eq_true, decide_eq_true_eq] at this
  omega
theorem are_eq (st : List Bool) (b : Bool) (t : List Int) (c : Bool) (h : ∀ x ∈ t, 0 ≤ x ∧ x < (st.length : Int)) : impl_State_are.f st b t c = some (t.all fun x => rdOf false st x == c) := by
  unfold impl_State_are.f
  rw [if_pos]
  rw [List.all_eq_true]
  intro x hx
  have := h x hx
  simp [this.1, this.2]
theorem canCross_ev (l : List Int) (s : Int) (st : List Bool) (b : Bool) (t : List Int) (hl : l.length ≤ 1048576) (ht : t.length ≤ 1048576) (hs : st.length = l.length) : Ev (fun k => impl_Party_canCross.f k l s st b t) (canP l.length s st b t) := by
  obtain ⟨K, e⟩ := isTrip_ev l s t hl ht
  refine ⟨K, fun k hk => ?_⟩
  unfold impl_Party_canCross.f canP
  simp only [e k hk, Option.bind_some]
  cases h : tripP l.length s t with
  | false => rfl
  | true =>
    rw [if_pos rfl, are_eq st b t b (by rw [hs]; exact tripP_in h)]
    rfl
theorem paCan_loop (st : List Bool) (b : Bool) : ∀ (r pre : List Int), (pre ++ r).length ≤ 9223372036854775807 → (∀ x ∈ r, 0 ≤ x ∧ x < (st.length : Int)) → Ev (fun k => spec_paCan.l0 k (pre ++ r) ((pre ++ r).length : Int) (pre.length : Int) st b) (r.all fun x => rdOf false st x == b) := by
  intro r
  induction r with
  | nil =>
    intro pre hl hi
    refine Ev.step (f := fun _ => some true) (fun k => ?_) (Ev.now _)
    simp only [spec_paCan.l0]
    rw [if_neg (nlt_end pre)]
  | cons x r ih =>
    intro pre hl hi
    have hx := hi x (by simp)
    by_cases c : rdOf false st x = b
    · refine Ev.step (fun k => ?_) (ev_eq (ih (pre ++ [x]) (by simpa using hl) (fun y hy => hi y (by simp [hy]))) (by simp [c]))
      simp only [spec_paCan.l0]
      rw [if_pos (lt_mid pre x r), if_pos (zle _), if_pos (lt_mid pre x r), rd_mid, if_pos hx.1, if_pos hx.2, if_neg (by simp [c]), wr_mid pre x r hl, app_mid pre x r]
    · refine Ev.step (f := fun _ => some false) (fun k => ?_) (ev_eq (Ev.now _) (by simp [c]))
      simp only [spec_paCan.l0]
      rw [if_pos (lt_mid pre x r), if_pos (zle _), if_pos (lt_mid pre x r), rd_mid, if_pos hx.1, if_pos hx.2, if_pos (by simpa using c)]
theorem paCan_ev (l : List Int) (s : Int) (st : List Bool) (b : Bool) (t : List Int) (hl : l.length ≤ 1048576) (ht : t.length ≤ 1048576) (hs : st.length = l.length) : Ev (fun k => spec_paCan.f k l s st b t) (canP l.length s st b t) := by
  unfold spec_paCan.f canP
  refine Ev.bind (paTrip_ev l s t hl ht) ?_
  cases h : tripP l.length s t with
  | false => exact Ev.now _
  | true =>
    simp only [if_true, Bool.true_and]
    exact paCan_loop st b t [] (by simp; omega) (by rw [hs]; exact tripP_in h)
def mv (v : Bool) : List Int → List Bool → List Bool
  | [], o => o
  | x :: r, o => mv v r (o.set x.toNat v)
theorem mv_len (v : Bool) (t : List Int) : ∀ o : List Bool, (mv v t o).length = o.length := by
  induction t with
  | nil => intro o; rfl
  | cons x r ih => intro o; simp only [mv]; rw [ih]; simp
theorem moved_loop (v : Bool) : ∀ (r pre : List Int) (o : List Bool), (pre ++ r).length ≤ 9223372036854775807 → (∀ x ∈ r, 0 ≤ x ∧ x < (o.length : Int)) → Ev (fun k => impl_State_moved.l0 k (pre ++ r) ((pre ++ r).length : Int) (pre.length : Int) o v) (mv v r o, v) := by
  intro r
  induction r with
  | nil =>
    intro pre o hl hi
    refine Ev.step (f := fun _ => some _) (fun k => ?_) (Ev.now _)
    simp only [impl_State_moved.l0]
    rw [if_neg (nlt_end pre)]
    rfl
  | cons x r ih =>
    intro pre o hl hi
    have hx := hi x (by simp)
    refine Ev.step (fun k => ?_) (ih (pre ++ [x]) (o.set x.toNat v) (by simpa using hl) (fun y hy => by have := hi y (by simp [hy]); simpa using this))
    simp only [impl_State_moved.l0]
    rw [if_pos (lt_mid pre x r), if_pos (zle _), if_pos (lt_mid pre x r), rd_mid, if_pos hx.1, if_pos hx.2, wr_mid pre x r hl, app_mid pre x r]
theorem moved_ev (st : List Bool) (b : Bool) (t : List Int) (hs : st.length ≤ 1048576) (ht : t.length ≤ 1048576) (hi : ∀ x ∈ t, 0 ≤ x ∧ x < (st.length : Int)) : Ev (fun k => impl_State_moved.f k st b t) (mv (!b) t st, !b) := by
  unfold impl_State_moved.f
  refine Ev.bind (a := st) (ev_some (by unfold slices_Clone_bool_bool.f; rw [if_pos (by omega)])) ?_
  exact moved_loop (!b) t [] st (by simp; omega) hi
theorem paCross_loop (st : List Bool) (b c : Bool) : ∀ (r pre : List Int) (o : List Bool), (pre ++ r).length ≤ 9223372036854775807 → (∀ x ∈ r, 0 ≤ x ∧ x < (st.length : Int)) → (∀ x ∈ r, rdOf false st x = b) → o.length = st.length → Ev (fun k => spec_paCross.l0 k (pre ++ r) ((pre ++ r).length : Int) (pre.length : Int) st b o c) (mv (!b) r o, c) := by
  intro r
  induction r with
  | nil =>
    intro pre o hl hi hb ho
    refine Ev.step (f := fun _ => some _) (fun k => ?_) (Ev.now _)
    simp only [spec_paCross.l0]
    rw [if_neg (nlt_end pre)]
    rfl
  | cons x r ih =>
    intro pre o hl hi hb ho
    have hx := hi x (by simp)
    have hbx := hb x (by simp)
    refine Ev.step (fun k => ?_) (ih (pre ++ [x]) (o.set x.toNat (!b)) (by simpa using hl) (fun y hy => hi y (by simp [hy])) (fun y hy => hb y (by simp [hy])) (by simpa using ho))
    simp only [spec_paCross.l0]
    rw [if_pos (lt_mid pre x r), if_pos (zle _), if_pos (lt_mid pre x r), rd_mid, if_pos hx.1, if_pos hx.2, if_pos (by rw [ho]; exact hx.2), hbx, wr_mid pre x r hl, app_mid pre x r]
theorem paCross_ev (st : List Bool) (b : Bool) (t : List Int) (hs : st.length ≤ 1048576) (ht : t.length ≤ 1048576) (hi : ∀ x ∈ t, 0 ≤ x ∧ x < (st.length : Int)) (hb : ∀ x ∈ t, rdOf false st x = b) : Ev (fun k => spec_paCross.f k st b t) (mv (!b) t st, !b) := by
  unfold spec_paCross.f
  simp only [Option.bind_some, List.nil_append, List.length_nil, Nat.zero_add, if_pos (show st.length < 140737488355328 by omega)]
  exact paCross_loop st b (!b) t [] st (by simp; omega) hi hb rfl
theorem canP_in {n : Nat} {s : Int} {st : List Bool} {b : Bool} {t : List Int} (h : canP n s st b t = true) : (∀ x ∈ t, 0 ≤ x ∧ x < (n : Int)) ∧ ∀ x ∈ t, rdOf false st x = b := by
  unfold canP at h
  simp only [Bool.and_eq_true] at h
  refine ⟨tripP_in h.1, ?_⟩
  have := List.all_eq_true.1 h.2
  intro x hx
  simpa using this x hx
def play (n : Nat) (s : Int) : List (List Int) → List Bool → Bool → Option (List Bool × Bool)
  | [], st, b => some (st, b)
  | t :: ts, st, b => if canP n s st b t then play n s ts (mv (!b) t st) (!b) else none
theorem play_len {n : Nat} {s : Int} : ∀ (ts : List (List Int)) (st : List Bool) (b : Bool) (o : List Bool) (c : Bool), play n s ts st b = some (o, c) → o.length = st.length := by
  intro ts
  induction ts with
  | nil => intro st b o c h; cases h; rfl
  | cons t ts ih =>
    intro st b o c h
    simp only [play] at h
    by_cases q : canP n s st b t = true
    · rw [if_pos q] at h
      rw [ih _ _ _ _ h, mv_len]
    · rw [if_neg q] at h; cases h
theorem failing_loop (l : List Int) (s : Int) (hl : l.length ≤ 1048576) : ∀ (r pre : List (List Int)) (st : List Bool) (b : Bool), (pre ++ r).length ≤ 1048576 → (∀ t ∈ r, t.length ≤ 1048576) → st.length = l.length → ∃ v, Ev (fun k => impl_Party_failing.l0 k (pre ++ r) ((pre ++ r).length : Int) (pre.length : Int) l s st b) v ∧ (match play l.length s r st b with | none => 0 ≤ v.2.2 | some (o, c) => v = (o, c, -1)) := by
  intro r
  induction r with
  | nil =>
    intro pre st b hn ht hs
    refine ⟨(st, b, -1), ?_, rfl⟩
    refine Ev.step (f := fun k => (impl_State_moved.f k st b ([] : List Int)).bind fun bt350 => ((impl_State_moved.f k bt350.1 bt350.2 ([] : List Int)).bind fun bt354 => (some (bt354.1, bt354.2, (-1))))) (fun k => ?_) (Ev.bind (moved_ev st b [] (by omega) (by simp) (by simp)) (Ev.bind (moved_ev _ (!b) [] (by simp [mv]; omega) (by simp) (by simp)) ?_))
    · simp only [impl_Party_failing.l0]
      rw [if_neg (nlt_end pre)]
    · exact ev_eq (Ev.now _) (by simp [mv])
  | cons t r ih =>
    intro pre st b hn ht hs
    have h1 := ht t (by simp)
    have hc := canCross_ev l s st b t hl h1 hs
    cases q : canP l.length s st b t with
    | false =>
      refine ⟨(st, b, (pre.length : Int)), Ev.step (fun k => ?_) (Ev.bind (f := fun k t359 => if t359 = true then ((impl_State_moved.f k st b t).bind fun bt360 => (impl_Party_failing.l0 k (pre ++ t :: r) ((pre ++ t :: r).length : Int) (wrap64 ((pre.length : Int) + 1)) l s bt360.1 bt360.2)) else (some (st, b, (pre.length : Int)))) hc ?_), ?_⟩
      · simp only [impl_Party_failing.l0]
        rw [if_pos (lt_mid pre t r), if_pos (zle _), if_pos (lt_mid pre t r), rd_L2_mid]
      · rw [q]; exact Ev.now _
      · simp only [play, q]; exact zle _
    | true =>
      obtain ⟨hi, hb⟩ := canP_in q
      obtain ⟨v, hv, hm⟩ := ih (pre ++ [t]) (mv (!b) t st) (!b) (by simpa using hn) (fun y hy => ht y (by simp [hy])) (by rw [mv_len, hs])
      refine ⟨v, Ev.step (fun k => ?_) (Ev.bind (f := fun k t359 => if t359 = true then ((impl_State_moved.f k st b t).bind fun bt360 => (impl_Party_failing.l0 k (pre ++ t :: r) ((pre ++ t :: r).length : Int) (wrap64 ((pre.length : Int) + 1)) l s bt360.1 bt360.2)) else (some (st, b, (pre.length : Int)))) hc ?_), ?_⟩
      · simp only [impl_Party_failing.l0]
        rw [if_pos (lt_mid pre t r), if_pos (zle _), if_pos (lt_mid pre t r), rd_L2_mid]
      · simp only [q, if_true]
        refine Ev.bind (moved_ev st b t (by omega) h1 (by rw [hs]; exact hi)) ?_
        dsimp only
        rw [wr_mid pre t r (by omega), app_mid pre t r]
        exact hv
      · simp only [play, q, if_true]; exact hm
theorem paPlay_loop (l : List Int) (s : Int) (x0 : List (List Int)) (hl : l.length ≤ 1048576) : ∀ (r pre : List (List Int)) (st : List Bool) (b : Bool), x0 = pre ++ r → (pre ++ r).length ≤ 1048576 → (∀ t ∈ r, t.length ≤ 1048576) → st.length = l.length → ∃ v, Ev (fun k => spec_paPlay.l0 k x0 (pre ++ r) ((pre ++ r).length : Int) (pre.length : Int) l s st b) v ∧ (match play l.length s r st b with | none => v.2.2 < (x0.length : Int) | some (o, c) => v = (o, c, (x0.length : Int))) := by
  intro r
  induction r with
  | nil =>
    intro pre st b e hn ht hs
    refine ⟨(st, b, (x0.length : Int)), ?_, rfl⟩
    refine Ev.step (f := fun k => some _) (fun k => ?_) (Ev.now _)
    simp only [spec_paPlay.l0]
    rw [if_neg (nlt_end pre)]
  | cons t r ih =>
    intro pre st b e hn ht hs
    have h1 := ht t (by simp)
    have hc := paCan_ev l s st b t hl h1 hs
    cases q : canP l.length s st b t with
    | false =>
      refine ⟨(st, b, (pre.length : Int)), Ev.step (fun k => ?_) (Ev.bind (f := fun k t279 => if t279 = true then ((spec_paCross.f k st b t).bind fun bt280 => (spec_paPlay.l0 k x0 (pre ++ t :: r) ((pre ++ t :: r).length : Int) (wrap64 ((pre.length : Int) + 1)) l s bt280.1 bt280.2)) else (some (st, b, (pre.length : Int)))) hc ?_), ?_⟩
      · simp only [spec_paPlay.l0]
        rw [if_pos (lt_mid pre t r), if_pos (zle _), if_pos (lt_mid pre t r), rd_L2_mid]
      · rw [q]; exact Ev.now _
      · simp only [play, q]; rw [e]; exact lt_mid pre t r
    | true =>
      obtain ⟨hi, hb⟩ := canP_in q
      obtain ⟨v, hv, hm⟩ := ih (pre ++ [t]) (mv (!b) t st) (!b) (by rw [e]; simp) (by simpa using hn) (fun y hy => ht y (by simp [hy])) (by rw [mv_len, hs])
      refine ⟨v, Ev.step (fun k => ?_) (Ev.bind (f := fun k t279 => if t279 = true then ((spec_paCross.f k st b t).bind fun bt280 => (spec_paPlay.l0 k x0 (pre ++ t :: r) ((pre ++ t :: r).length : Int) (wrap64 ((pre.length : Int) + 1)) l s bt280.1 bt280.2)) else (some (st, b, (pre.length : Int)))) hc ?_), ?_⟩
      · simp only [spec_paPlay.l0]
        rw [if_pos (lt_mid pre t r), if_pos (zle _), if_pos (lt_mid pre t r), rd_L2_mid]
      · simp only [q, if_true]
        refine Ev.bind (paCross_ev st b t (by omega) h1 (by rw [hs]; exact hi) hb) ?_
        dsimp only
        rw [wr_mid pre t r (by omega), app_mid pre t r]
        exact hv
      · simp only [play, q, if_true]; exact hm
theorem indexB_loop (x : Bool) : ∀ (r pre : List Bool), (pre ++ r).length ≤ 1048576 → ∃ v, Ev (fun k => slices_Index_bool_bool.l0 k (pre ++ r) x ((pre ++ r).length : Int) (pre.length : Int)) v ∧ (decide (v ≥ 0) = r.any (fun y => x == y)) := by
  intro r
  induction r with
  | nil =>
    intro pre hl
    refine ⟨-1, Ev.step (f := fun _ => some _) (fun k => ?_) (Ev.now _), rfl⟩
    simp only [slices_Index_bool_bool.l0]
    rw [if_neg (nlt_end pre)]
  | cons y r ih =>
    intro pre hl
    by_cases c : (x == y) = true
    · refine ⟨(pre.length : Int), Ev.step (f := fun _ => some _) (fun k => ?_) (Ev.now _), by simp [c]⟩
      simp only [slices_Index_bool_bool.l0]
      rw [if_pos (lt_mid pre y r), if_pos (zle _), if_pos (lt_mid pre y r), rdOf_mid, if_pos c]
    · obtain ⟨v, hv, hd⟩ := ih (pre ++ [y]) (by simpa using hl)
      refine ⟨v, Ev.step (fun k => ?_) hv, by simp only [List.any_cons, c, Bool.false_or]; exact hd⟩
      simp only [slices_Index_bool_bool.l0]
      rw [if_pos (lt_mid pre y r), if_pos (zle _), if_pos (lt_mid pre y r), rdOf_mid, if_neg c, wr_mid pre y r (by omega), app_mid pre y r]
theorem containsB_ev (l : List Bool) (x : Bool) (hl : l.length ≤ 1048576) : Ev (fun k => slices_Contains_bool_bool.f k l x) (l.any fun y => x == y) := by
  obtain ⟨v, hv, hd⟩ := indexB_loop x l [] (by simpa using hl)
  unfold slices_Contains_bool_bool.f
  exact Ev.bind hv (ev_eq (Ev.now _) hd)
def planP (n : Nat) (s : Int) (ts : List (List Int)) : Bool := if 40 < ts.length then false else match play n s ts (List.replicate n false) false with | none => false | some (o, c) => c && o.all id
theorem isPlan_ev (l : List Int) (s : Int) (ts : List (List Int)) (hl : l.length ≤ 8) (hn : ts.length ≤ 1048576) (ht : ∀ t ∈ ts, t.length ≤ 1048576) : Ev (fun k => impl_Party_isPlan.f k l s ts) (planP l.length s ts) := by
  unfold impl_Party_isPlan.f planP
  by_cases c : 40 < ts.length
  · simp only [if_pos c, if_pos (show (ts.length : Int) > 40 by omega)]
    exact Ev.now _
  · simp only [if_neg c, if_neg (show ¬ (ts.length : Int) > 40 by omega)]
    have ha : impl_allAt.f (l.length : Int) false = some (List.replicate l.length false, false) := by
      unfold impl_allAt.f slices_Repeat_bool_bool.f
      rw [if_pos ⟨zle _, by omega, rfl⟩]
      simp [rdOf]
    refine Ev.bind (ev_some ha) ?_
    obtain ⟨v, hv, hm⟩ := failing_loop l s (by omega) ts [] (List.replicate l.length false) false (by simpa using hn) ht (by simp)
    refine Ev.bind (g := fun k => impl_Party_failing.f k l s (List.replicate l.length false) false ts) hv ?_
    cases hp : play l.length s ts (List.replicate l.length false) false with
    | none =>
      rw [hp] at hm
      simp only [if_neg (show ¬ v.2.2 < 0 from Int.not_lt.2 hm)]
      exact Ev.now _
    | some r =>
      obtain ⟨o, d⟩ := r
      rw [hp] at hm
      simp only at hm
      subst hm
      have ho := play_len ts _ _ o d hp
      simp only [if_pos (show (-1 : Int) < 0 by omega)]
      cases d with
      | false => exact Ev.now _
      | true =>
        simp only [if_true, Bool.true_and]
        refine Ev.bind (containsB_ev o false (by rw [ho]; simp; omega)) (ev_eq (Ev.now _) ?_)
        clear hv hp ho
        induction o with
        | nil => rfl
        | cons x o ih => cases x <;> simp_all
theorem paLast_loop (l : List Int) : ∀ (j i : Nat) (o : List Bool), i + j = l.length → l.length ≤ 1048576 → o = List.replicate i true → Ev (fun k => spec_paLast.l0 k (l.length : Int) (i : Int) o true) (List.replicate l.length true, true) := by
  intro j
  induction j with
  | zero =>
    intro i o h hl ho
    refine Ev.step (f := fun _ => some _) (fun k => ?_) (Ev.now _)
    simp only [spec_paLast.l0]
    rw [if_neg (by omega), ho, show i = l.length by omega]
  | succ j ih =>
    intro i o h hl ho
    refine Ev.step (fun k => ?_) (ih (i + 1) (o ++ [true]) (by omega) hl (by rw [ho, List.replicate_succ']))
    simp only [spec_paLast.l0]
    rw [if_pos (by omega), if_pos (by rw [ho]; simp; omega), wr_id (by omega) (by omega)]
    rfl
theorem paSame_loop (a b c d : List Bool) (x y : Bool) (hc : c.length ≤ 1048576) : ∀ (r pre s qre : List Bool), pre.length = qre.length → r.length = s.length → (pre ++ r).length ≤ 1048576 → Ev (fun k => spec_paSame.l0 k (pre ++ r) ((pre ++ r).length : Int) (pre.length : Int) a x (qre ++ s) y) (decide (r = s) && (x == y)) := by
  intro r
  induction r with
  | nil =>
    intro pre s qre hp hs hl
    obtain rfl : s = [] := List.eq_nil_of_length_eq_zero hs.symm
    refine Ev.step (f := fun _ => some _) (fun k => ?_) (Ev.now _)
    simp only [spec_paSame.l0]
    rw [if_neg (nlt_end pre)]
    simp
  | cons u r ih =>
    intro pre s qre hp hs hl
    match s, hs with
    | v :: s, hs =>
      by_cases e : u = v
      · subst e
        refine Ev.step (fun k => ?_) (ev_eq (ih (pre ++ [u]) s (qre ++ [u]) (by simp [hp]) (by simpa using hs) (by simpa using hl)) (by simp))
        simp only [spec_paSame.l0]
        rw [if_pos (lt_mid pre u r), if_pos (zle _), if_pos (lt_mid pre u r), if_pos (by rw [hp]; exact lt_mid qre u s), rdOf_mid, hp, rdOf_mid, if_neg (by simp), ← hp, wr_mid pre u r (by omega), app_mid pre u r, app_mid qre u s]
      · refine Ev.step (f := fun _ => some false) (fun k => ?_) (ev_eq (Ev.now _) (by simp [e]))
        simp only [spec_paSame.l0]
        rw [if_pos (lt_mid pre u r), if_pos (zle _), if_pos (lt_mid pre u r), if_pos (by rw [hp]; exact lt_mid qre v s), rdOf_mid, hp, rdOf_mid, if_pos (by simpa using e)]
theorem all_rep (o : List Bool) : o.all id = decide (o = List.replicate o.length true) := by
  induction o with
  | nil => rfl
  | cons x o ih =>
    rw [List.all_cons, ih, List.length_cons, List.replicate_succ]
    cases x <;> simp
theorem paPlan_ev (l : List Int) (s : Int) (ts : List (List Int)) (hl : l.length ≤ 8) (hn : ts.length ≤ 1048576) (ht : ∀ t ∈ ts, t.length ≤ 1048576) : Ev (fun k => spec_paPlan.f k l s ts) (planP l.length s ts) := by
  unfold spec_paPlan.f planP
  by_cases c : 40 < ts.length
  · simp only [if_pos c, if_pos (show (ts.length : Int) > 40 by omega)]
    exact Ev.now _
  · simp only [if_neg c, if_neg (show ¬ (ts.length : Int) > 40 by omega)]
    have ha : spec_paFirst.f l s = some (List.replicate l.length false, false) := by
      unfold spec_paFirst.f
      rw [if_pos (zle _), if_pos (show ((l.length : Int)).toNat ≤ 281474976710656 by omega), Int.toNat_natCast]
    refine Ev.bind (ev_some ha) ?_
    obtain ⟨v, hv, hm⟩ := paPlay_loop l s ts (by omega) ts [] (List.replicate l.length false) false rfl (by simpa using hn) ht (by simp)
    refine Ev.bind (g := fun k => spec_paPlay.f k l s (List.replicate l.length false) false ts) hv ?_
    cases hp : play l.length s ts (List.replicate l.length false) false with
    | none =>
      rw [hp] at hm
      simp only at hm
      simp only [if_neg (show ¬ v.2.2 = (ts.length : Int) by omega)]
      exact Ev.now _
    | some r =>
      obtain ⟨o, d⟩ := r
      rw [hp] at hm
      simp only at hm
      subst hm
      have ho := play_len ts _ _ o d hp
      rw [List.length_replicate] at ho
      simp only [if_true]
      refine Ev.bind (g := fun k => spec_paLast.f k l s) (paLast_loop l l.length 0 [] (by omega) (by omega) rfl) ?_
      dsimp only
      refine Ev.bind (g := fun k => spec_paSame.f k o d (List.replicate l.length true) true) (paSame_loop o [] [] [] d true (by simp) o [] (List.replicate l.length true) [] rfl (by simpa using ho) (by simp; omega)) (ev_eq (Ev.now _) ?_)
      rw [all_rep, ho]
      cases d <;> simp
end Go.Proofs.Ytdomojenlofieaa.Pure

namespace Go.Proofs.Ytdomojenlofieaa.Pure
open Go.Proofs.Ytdomojenlofieaa.Walk Go.RowKit Go.Proofs.Ytdomojenlofieaa.C1 Go.Proofs.Ytdomojenlofieaa.H Go.Proofs.YtdomojenlofieaaW.PrintWords Go.Proofs.YtdomojenlofieaaW.PrintLast Go.Proofs.YtdomojenlofieaaW.PrintMore
set_option linter.unusedVariables false
set_option linter.unusedSimpArgs false
def FnExactBackPlan_val (l : List Int) (s : Int) (ts : List (List Int)) : List (List Int) × Bool := if goodP l s && planP l.length s ts then (ts.reverse, true) else ([], false)
theorem l1Own_eqB (l : List Int) (h : l.length ≤ 1048576) : spec_l1Own.f l = some l := by
  unfold spec_l1Own.f
  simp [show l.length < 17592186044416 by omega]
theorem spec_back : ∀ (n : Nat) (pre r : List (List Int)), pre.length = n → (pre ++ r).length ≤ 1048576 → (∀ t ∈ pre, t.length ≤ 1048576) → Ev (fun k => spec_BackPlan.l0 k (pre ++ r) r.reverse (wrap64 ((pre.length : Int) - 1))) ((pre ++ r).reverse, true) := by
  intro n
  induction n with
  | zero =>
    intro pre r hn hl ht
    obtain rfl : pre = [] := List.eq_nil_of_length_eq_zero hn
    refine Ev.step (f := fun _ => some _) (fun k => ?_) (Ev.now _)
    simp only [spec_BackPlan.l0]
    rw [if_neg (by simp [wr_id])]
    simp
  | succ n ih =>
    intro pre r hn hl ht
    rcases List.eq_nil_or_concat pre with rfl | ⟨pre', x, rfl⟩
    · simp at hn
    rw [List.concat_eq_append] at *
    have hn' : pre'.length = n := by simpa using hn
    have hl' : pre'.length + (r.length + 1) ≤ 1048576 := by simp only [List.length_append, List.length_cons, List.length_nil] at hl; omega
    have h := ih pre' (x :: r) hn' (by simp only [List.length_append, List.length_cons]; omega) (fun t h => ht t (by simp [h]))
    rw [show (pre' ++ [x]) ++ r = pre' ++ x :: r by simp]
    have e1 : wrap64 (((pre' ++ [x]).length : Int) - 1) = (pre'.length : Int) := by
      rw [wr_id (by simp only [List.length_append, List.length_cons, List.length_nil]; omega) (by simp only [List.length_append, List.length_cons, List.length_nil]; omega)]
      simp
    rw [e1]
    refine Ev.step (fun k => ?_) h
    simp only [spec_BackPlan.l0]
    rw [if_pos (show (pre'.length : Int) ≥ 0 from zle _), if_pos (zle _), if_pos (lt_mid pre' x r), rd_L2_mid, l1Own_eqB x (ht x (by simp)), Option.bind_some, if_pos (by rw [List.length_reverse]; omega), List.reverse_cons]
theorem spec_FnExactBackPlan_ev (l : List Int) (s : Int) (ts : List (List Int)) (hl : l.length ≤ 1048576) (hn : n2 ts ≤ 1048576) : Ev (fun k => spec_BackPlan.f k l s ts) (FnExactBackPlan_val l s ts) := by
  obtain ⟨hn1, hn2⟩ := szSum_bound List.length ts (by simpa only [n2] using hn)
  unfold spec_BackPlan.f FnExactBackPlan_val
  refine Ev.bind (paGood_ev l s hl) ?_
  cases hg : goodP l s with
  | false =>
    simp only [Bool.false_eq_true, if_false]
    refine Ev.step (fun k => spec_BackPlan.j0.eq_2 ..) ?_
    exact Ev.now _
  | true =>
    have h8 := goodP_len hg
    simp only [if_true, Bool.true_and]
    refine Ev.bind (paPlan_ev l s ts h8 hn1 hn2) ?_
    cases hp : planP l.length s ts with
    | false =>
      simp only [Bool.false_eq_true, if_false]
      refine Ev.step (fun k => spec_BackPlan.j0.eq_2 ..) ?_
      exact Ev.now _
    | true =>
      refine Ev.step (fun k => spec_BackPlan.j0.eq_2 ..) ?_
      simp only [Bool.not_true, Bool.false_eq_true, if_false, if_true]
      have h := spec_back ts.length ts [] rfl (by simpa using hn1) hn2
      simpa using h
theorem impl_clone : ∀ (r pre : List (List Int)), (pre ++ r).length ≤ 1048576 → (∀ t ∈ r, t.length ≤ 1048576) → Ev (fun k => impl_cloneLists.l0 k pre (pre ++ r) ((pre ++ r).length : Int) (pre.length : Int)) (pre ++ r) := by
  intro r
  induction r with
  | nil =>
    intro pre hl ht
    refine Ev.step (f := fun _ => some _) (fun k => ?_) (Ev.now _)
    simp only [impl_cloneLists.l0]
    rw [if_neg (nlt_end pre), List.append_nil]
  | cons t r ih =>
    intro pre hl ht
    have hc : slices_Clone_int_int.f t = some t := if_pos (by have := ht t (by simp); omega)
    have hp : pre.length < 5864062014805 := by simp only [List.length_append, List.length_cons] at hl; omega
    have h := ih (pre ++ [t]) (by simpa using hl) (fun y hy => ht y (by simp [hy]))
    refine Ev.step (fun k => ?_) (ev_eq h (app_mid pre t r).symm)
    simp only [impl_cloneLists.l0]
    rw [if_pos (lt_mid pre t r), if_pos (zle _), if_pos (lt_mid pre t r), rd_L2_mid, hc, Option.bind_some, if_pos hp, wr_mid pre t r (by omega), app_mid pre t r]
theorem impl_FnExactBackPlan_ev (l : List Int) (s : Int) (ts : List (List Int)) (hl : l.length ≤ 1048576) (hn : n2 ts ≤ 1048576) : Ev (fun k => impl_BackPlan.f k l s ts) (FnExactBackPlan_val l s ts) := by
  obtain ⟨hn1, hn2⟩ := szSum_bound List.length ts (by simpa only [n2] using hn)
  unfold impl_BackPlan.f FnExactBackPlan_val
  refine Ev.bind (ev_some (isParty_eq l s)) ?_
  cases hg : goodP l s with
  | false =>
    simp only [Bool.false_eq_true, if_false]
    refine Ev.step (fun k => impl_BackPlan.j0.eq_2 ..) ?_
    exact Ev.now _
  | true =>
    have h8 := goodP_len hg
    simp only [if_true, Bool.true_and]
    refine Ev.bind (isPlan_ev l s ts h8 hn1 hn2) ?_
    cases hp : planP l.length s ts with
    | false =>
      simp only [Bool.false_eq_true, if_false]
      refine Ev.step (fun k => impl_BackPlan.j0.eq_2 ..) ?_
      exact Ev.now _
    | true =>
      refine Ev.step (fun k => impl_BackPlan.j0.eq_2 ..) ?_
      simp only [Bool.not_true, Bool.false_eq_true, if_false, if_true]
      unfold impl_cloneLists.f
      refine Ev.bind (impl_clone ts [] (by simpa using hn1) hn2) ?_
      simp only [List.nil_append, slices_Reverse_int_int.f, Option.bind_some]
      exact Ev.now _
theorem szSum_append (f : List Int → Nat) : ∀ a b : List (List Int), szSum f (a ++ b) = szSum f a + szSum f b
  | [], b => by simp [szSum]
  | x :: a, b => by simp only [List.cons_append, szSum, szSum_append f a b]; omega
theorem szSum_reverse (f : List Int → Nat) : ∀ a : List (List Int), szSum f a.reverse = szSum f a
  | [] => rfl
  | x :: a => by rw [List.reverse_cons, szSum_append, szSum_reverse f a]; simp [szSum]; omega
theorem FnExactBackPlan_small (l : List Int) (s : Int) (ts : List (List Int)) (hl : l.length ≤ 1048576) (hn : n2 ts ≤ 1048576) : n2 (FnExactBackPlan_val l s ts).1 ≤ 1048576 := by
  unfold FnExactBackPlan_val
  split
  · simp only [n2, List.length_reverse, szSum_reverse] at hn ⊢
    exact hn
  · simp [n2, szSum]
theorem FnExactBackPlan_all (A0_0 : Option Addr) (c0_0 : Nat) (l0_0 : List Int) (a0_1 : Int) (A1 : Option Addr) (c1 : Nat) (l1 : List (List Int)) (w : World) (hr0_0 : Kd.C (Kd.int .i64) w A0_0 l0_0.length l0_0) (hc0_0 : l0_0.length ≤ c0_0) (hr1 : Kd.C (Kd.slice 3 (Kd.int .i64)) w A1 l1.length l1) (hc1 : l1.length ≤ c1) (g0_0 : goodL goodI l0_0) (g0_1 : goodI a0_1) (g1 : goodL (goodL goodI) l1) :
    Calls Try.prog 4 #[.agg #[.slice A0_0 l0_0.length c0_0, .int .i64 a0_1], .slice A1 l1.length c1] w fun e w' => e = .returned (.bool true) ∧ Below w.heap.size w w' := by
  obtain ⟨u0, hu0, hc⟩ := szParty_cases l0_0 a0_1 1048576 (by omega) (by omega) g0_0.1
  replace hu0 := ev_some hu0
  rcases hc with hc | ⟨b0, d0⟩
  · obtain ⟨Kx, fx⟩ := hu0
    exact FnExactBackPlan_short0 _ _ _ _ _ _ _ w hr0_0 hc0_0 hr1 hc1  _ (fx _ (Nat.le_refl _)) hc
  have nu0 : ¬ u0 < 0 := by omega
  obtain ⟨u1, hu1, hc⟩ := szIntSS_cases l1 u0 b0 (by omega) (good2 g1)
  rcases hc with hc | ⟨b1, d1⟩
  · obtain ⟨Ky0, fy0⟩ := hu0
    obtain ⟨Kx, fx⟩ := hu1
    exact FnExactBackPlan_short1 _ _ _ _ _ _ _ w hr0_0 hc0_0 hr1 hc1 _ (fy0 _ (Nat.le_refl _)) nu0 _ _ (fx _ (Nat.le_refl _)) hc
  have nu1 : ¬ u1 < 0 := by omega
  have z0_0 : List.length l0_0 ≤ 1048576 := by omega
  have z1 : n2 l1 ≤ 1048576 := by omega
  have et0 := toParty_ev l0_0 a0_1 z0_0
  have et1 := toIntSS_ev l1 z1
  have es := spec_FnExactBackPlan_ev l0_0 a0_1 l1 z0_0 z1
  have ei := impl_FnExactBackPlan_ev l0_0 a0_1 l1 z0_0 z1
  have hsm := FnExactBackPlan_small l0_0 a0_1 l1 z0_0 z1
  generalize FnExactBackPlan_val l0_0 a0_1 l1 = rr at *
  obtain ⟨r0, r1⟩ := rr
  dsimp only at hsm
  have s0 := hsm
  have eq0 : Ev (fun k => laws_eqIntSS.f k r0 r0) true := ev_eq (eqIntSS_ev r0 r0 s0) (decide_eq_true rfl)
  have ea0 : Ev (fun k => laws_eqParty.f k l0_0 a0_1 l0_0 a0_1) true := ev_eq (eqParty_ev l0_0 a0_1 l0_0 a0_1 z0_0) (decide_eq_true rfl)
  have ea1 : Ev (fun k => laws_eqIntSS.f k l1 l1) true := ev_eq (eqIntSS_ev l1 l1 z1) (decide_eq_true rfl)
  have ema0 := markParty_ev l0_0 a0_1 (1) z0_0
  have bma0_0 := mkS_bound l0_0 (1) (by omega) (by omega)
  have na0_0 : ¬ (mkS l0_0 (1)).1 < 0 := by omega
  have ema1 := ev_some (markIntSS_ev l1 ((mkS l0_0 (1)).1))
  have bma1 := mkSS_bound l1 ((mkS l0_0 (1)).1) (by omega) (by omega)
  have na1 : ¬ (mkSS l1 ((mkS l0_0 (1)).1)).1 < 0 := by omega
  have emr0 := ev_some (markIntSS_ev r0 (1))
  have bmr0 := mkSS_bound r0 (1) (by omega) (by omega)
  have nr0 : ¬ (mkSS r0 (1)).1 < 0 := by omega
  have eh0 := heldIntSS_ev r0 (1) (by omega) (by omega) s0
  clear bma0_0 bma1 bmr0
  obtain ⟨Khu0, fhu0⟩ := hu0
  obtain ⟨Khu1, fhu1⟩ := hu1
  obtain ⟨Ket0, fet0⟩ := et0
  obtain ⟨Ket1, fet1⟩ := et1
  obtain ⟨Kes, fes⟩ := es
  obtain ⟨Kei, fei⟩ := ei
  obtain ⟨Keq0, feq0⟩ := eq0
  obtain ⟨Kea0, fea0⟩ := ea0
  obtain ⟨Kea1, fea1⟩ := ea1
  obtain ⟨Kema0, fema0⟩ := ema0
  obtain ⟨Kema1, fema1⟩ := ema1
  obtain ⟨Kemr0, femr0⟩ := emr0
  obtain ⟨Keh0, feh0⟩ := eh0
  exact FnExactBackPlan_walk _ _ _ _ _ _ _ _ _ _ _ _ _ _ _ _ _ Khu1 Ket0 Ket1 Kes Kei Keq0 Kea0 Kea1 Kema0 Keh0 w hr0_0 hc0_0 hr1 hc1  (fhu0 _ (Nat.le_refl _)) nu0 (fhu1 _ (Nat.le_refl _)) nu1 (fet0 _ (Nat.le_refl _)) (fet1 _ (Nat.le_refl _)) (fes _ (Nat.le_refl _)) (fei _ (Nat.le_refl _)) (feq0 _ (Nat.le_refl _)) (fea0 _ (Nat.le_refl _)) (fea1 _ (Nat.le_refl _)) (fema0 _ (Nat.le_refl _)) (fema1 _ (Nat.le_refl _)) na1 (femr0 _ (Nat.le_refl _)) (feh0 _ (Nat.le_refl _)) nr0
end Go.Proofs.Ytdomojenlofieaa.Pure
