import Derived.Test.YtcjjhkapdlfaeaaC1zx0
import Derived.Test.YtcjjhkapdlfaeaaC1zH0
import Derived.Test.YtcjjhkapdlfaeaaC1zH1
import Derived.Test.YtcjjhkapdlfaeaaC1zx1
import Derived.Test.YtcjjhkapdlfaeaaC1zx4
import Derived.Test.YtcjjhkapdlfaeaaC1zx8
import Derived.Test.YtcjjhkapdlfaeaaC1zx9
import Derived.Test.YtcjjhkapdlfaeaaC1zx2
import Derived.Test.YtcjjhkapdlfaeaaC1zx3
import Derived.Test.YtcjjhkapdlfaeaaC1zx7
import Derived.Test.YtcjjhkapdlfaeaaC1zx5
import Derived.Test.YtcjjhkapdlfaeaaC1zx6
import Derived.Test.YtcjjhkapdlfaeaaC1zH2
import Derived.Test.YtcjjhkapdlfaeaaC1zS
namespace Go.Proofs.Ytcjjhkapdlfaeaa.Pure
open Go.RowKit Go.Proofs.Ytcjjhkapdlfaeaa.C1 Go.Proofs.Ytcjjhkapdlfaeaa.H Go.Proofs.YtcjjhkapdlfaeaaW.PrintWords Go.Proofs.YtcjjhkapdlfaeaaW.PrintLast Go.Proofs.YtcjjhkapdlfaeaaW.PrintMore
set_option linter.unusedVariables false
set_option linter.unusedSimpArgs false
def szSum {α : Type} (f : α → Nat) : List α → Nat
  | [] => 0
  | x :: l => f x + szSum f l
def n2 (l : List (List Int)) : Nat := l.length + szSum List.length l
def n3 (l : List (List (List Int))) : Nat := l.length + szSum n2 l
theorem szSum_bound {α : Type} (f : α → Nat) (l : List α) {B : Nat} (h : l.length + szSum f l ≤ B) : l.length ≤ B ∧ ∀ x ∈ l, f x ≤ B := by
  refine ⟨by omega, ?_⟩
  have h2 : szSum f l ≤ B := by omega
  clear h
  induction l with
  | nil => intro x hx; cases hx
  | cons y l ih =>
    simp only [szSum] at h2
    intro x hx
    rcases List.mem_cons.1 hx with rfl | hx
    · omega
    · exact ih (by omega) x hx
theorem mkS_bound (l : List Int) : ∀ a : Int, 0 ≤ a → a + l.length ≤ 1000000000000000 → a ≤ (mkS l a).1 ∧ (mkS l a).1 ≤ a + l.length := by
  induction l with
  | nil => intro a _ _; simp [mkS]
  | cons x l ih =>
    intro a h0 h1
    simp only [List.length_cons] at h1
    simp only [mkS]
    rw [wr_id (by omega) (by omega)]
    have := ih (a + 1) (by omega) (by omega)
    simp only [List.length_cons]
    omega
theorem mkS_len (l : List Int) : ∀ a : Int, (mkS l a).2.length = l.length := by
  induction l with
  | nil => intro a; rfl
  | cons x l ih => intro a; simp only [mkS, List.length_cons]; rw [ih]
theorem mkSS_bound' (l : List (List Int)) : ∀ a : Int, 0 ≤ a → a + szSum List.length l ≤ 1000000000000000 → a ≤ (mkSS l a).1 ∧ (mkSS l a).1 ≤ a + szSum List.length l := by
  induction l with
  | nil => intro a _ _; simp [mkSS, szSum]
  | cons x l ih =>
    intro a h0 h1
    simp only [szSum] at h1
    have h2 := mkS_bound x a h0 (by omega)
    have := ih (mkS x a).1 (by omega) (by omega)
    simp only [mkSS, szSum]
    omega
theorem mkSS_bound (l : List (List Int)) (a : Int) (h0 : 0 ≤ a) (ha : a + n2 l ≤ 1000000000000000) : a ≤ (mkSS l a).1 ∧ (mkSS l a).1 ≤ a + n2 l := by
  simp only [n2] at ha ⊢
  have := mkSS_bound' l a h0 (by omega)
  omega
end Go.Proofs.Ytcjjhkapdlfaeaa.Pure

namespace Go.Proofs.Ytcjjhkapdlfaeaa.Pure
open Go.RowKit Go.Proofs.Ytcjjhkapdlfaeaa.C1 Go.Proofs.Ytcjjhkapdlfaeaa.H Go.Proofs.YtcjjhkapdlfaeaaW.PrintWords Go.Proofs.YtcjjhkapdlfaeaaW.PrintLast Go.Proofs.YtcjjhkapdlfaeaaW.PrintMore
set_option linter.unusedVariables false
set_option linter.unusedSimpArgs false
def goodIntS (l : List Int) : Prop := l.length ≤ 9223372036854775807
theorem szIntS_cases (l : List Int) (a : Int) (h0 : 0 ≤ a) (ha : a ≤ 1048576) (hg : goodIntS l) : ∃ t, laws_szIntS.f l a = some t ∧ (t < 0 ∨ (0 ≤ t ∧ t + (l.length : Int) ≤ a)) := by
  have hl : l.length ≤ 9223372036854775807 := hg
  unfold laws_szIntS.f
  rw [wr_id (by omega) (by omega)]
  by_cases h : a - (l.length : Int) < 0
  · exact ⟨-1, by rw [if_pos h], .inl (by omega)⟩
  · exact ⟨_, by rw [if_neg h], .inr ⟨by omega, by omega⟩⟩
theorem toIntS_loop (x0 : List Int) : ∀ (r pre suf : List Int), x0 = pre ++ r → suf.length = r.length → x0.length ≤ 9223372036854775807 → Ev (fun k => laws_toIntS.l0 k x0 (pre ++ suf) (pre.length : Int)) x0 := by
  intro r
  induction r with
  | nil =>
    intro pre suf e hs hl
    obtain rfl : suf = [] := List.eq_nil_of_length_eq_zero hs
    subst e
    refine Ev.step (f := fun _ => some _) (fun k => ?_) (Ev.now _)
    simp only [laws_toIntS.l0]
    rw [if_neg (nlt_end pre)]
  | cons x r ih =>
    intro pre suf e hs hl
    match suf, hs with
    | y :: suf, hs =>
      subst e
      refine Ev.step (fun k => ?_) (ev_eq (ih (pre ++ [x]) suf (by simp) (by simpa using hs) hl) rfl)
      simp only [laws_toIntS.l0]
      rw [if_pos (lt_mid pre x r), if_pos (zle _), if_pos (lt_mid pre y suf), rd_mid, set_mid, wr_mid pre x r hl, app_mid pre x suf]
theorem toIntS_ev (l : List Int) (hl : l.length ≤ 1048576) : Ev (fun k => laws_toIntS.f k l) l := by
  unfold laws_toIntS.f
  simp only [if_pos (zle l.length), if_pos (show ((l.length : Int)).toNat ≤ 35184372088832 by omega)]
  exact toIntS_loop l l [] _ rfl (by simp) (by omega)
theorem markIntS_loop : ∀ (r pre : List Int) (a : Int), (pre ++ r).length ≤ 9223372036854775807 → Ev (fun k => laws_markIntS.l0 k (pre ++ r) a (pre.length : Int)) ((mkS r a).1, pre ++ (mkS r a).2) := by
  intro r
  induction r with
  | nil =>
    intro pre a hl
    refine Ev.step (f := fun _ => some _) (fun k => ?_) (Ev.now _)
    simp only [laws_markIntS.l0]
    rw [if_neg (nlt_end pre)]
    rfl
  | cons x r ih =>
    intro pre a hl
    refine Ev.step (fun k => ?_) (ev_eq (ih (pre ++ [a]) (wrap64 (a + 1)) (by simpa using hl)) (by simp [mkS]))
    simp only [laws_markIntS.l0]
    rw [if_pos (lt_mid pre x r), if_pos (zle _), set_mid, wr_mid pre x r hl, app_mid pre (a) r]
    simp
theorem markIntS_ev (l : List Int) (a : Int) (hl : l.length ≤ 1048576) : Ev (fun k => laws_markIntS.f k l a) (mkS l a) := markIntS_loop l [] a (by simp; omega)
theorem eqIntS_loop : ∀ (r s pre qre : List Int), pre.length = qre.length → r.length = s.length → (pre ++ r).length ≤ 9223372036854775807 → Ev (fun k => laws_eqIntS.l0 k (pre ++ r) (qre ++ s) (pre.length : Int)) (decide (r = s)) := by
  intro r
  induction r with
  | nil =>
    intro s pre qre hp hs hl
    obtain rfl : s = [] := List.eq_nil_of_length_eq_zero hs.symm
    refine Ev.step (f := fun _ => some _) (fun k => ?_) (Ev.now _)
    simp only [laws_eqIntS.l0]
    rw [if_neg (nlt_end pre)]
    rfl
  | cons x r ih =>
    intro s pre qre hp hs hl
    match s, hs with
    | y :: s, hs =>
      by_cases e : x = y
      · subst e
        refine Ev.step (fun k => ?_) (ev_eq (ih s (pre ++ [x]) (qre ++ [x]) (by simp [hp]) (by simpa using hs) (by simpa using hl)) (by simp))
        simp only [laws_eqIntS.l0]
        rw [if_pos (lt_mid pre x r), if_pos (zle _), if_pos (by rw [hp]; exact lt_mid qre x s), rd_mid, hp, rd_mid, if_pos rfl, ← hp, wr_mid pre x r hl, app_mid pre x r, app_mid qre x s]
      · refine Ev.step (f := fun _ => some _) (fun k => ?_) (Ev.now _)
        simp only [laws_eqIntS.l0]
        rw [if_pos (lt_mid pre x r), if_pos (zle _), if_pos (by rw [hp]; exact lt_mid qre y s), rd_mid, hp, rd_mid, if_neg e]
        simp [e]
theorem eqIntS_ev (l s : List Int) (hl : l.length ≤ 1048576) : Ev (fun k => laws_eqIntS.f k l s) (decide (l = s)) := by
  unfold laws_eqIntS.f
  by_cases h : l.length = s.length
  · simp only [if_pos (show (l.length : Int) = (s.length : Int) by omega)]
    exact eqIntS_loop l s [] [] rfl h (by simp; omega)
  · simp only [if_neg (show ¬ (l.length : Int) = (s.length : Int) by omega)]
    refine ev_eq (Ev.now _) ?_
    have : l ≠ s := fun e => h (by rw [e])
    simp [this]
theorem heldIntS_loop : ∀ (r pre : List Int) (a : Int), (pre ++ r).length ≤ 9223372036854775807 → Ev (fun k => laws_heldIntS.l0 k (pre ++ (mkS r a).2) a (pre.length : Int)) (mkS r a).1 := by
  intro r
  induction r with
  | nil =>
    intro pre a hl
    refine Ev.step (f := fun _ => some a) (fun k => ?_) (Ev.now _)
    show laws_heldIntS.l0 (k + 1) (pre ++ []) a (pre.length : Int) = some a
    simp only [laws_heldIntS.l0]
    rw [if_neg (nlt_end pre)]
  | cons x r ih =>
    intro pre a hl
    refine Ev.step (fun k => ?_) (ev_eq (ih (pre ++ [a]) (wrap64 (a + 1)) (by simpa using hl)) (by simp [mkS]))
    show laws_heldIntS.l0 (k + 1) (pre ++ (a) :: (mkS r (wrap64 (a + 1))).2) a (pre.length : Int) = _
    simp only [laws_heldIntS.l0]
    rw [if_pos (lt_mid pre (a) _), if_pos (zle _), rd_mid, if_pos rfl, wr_mid pre (a) _ (by simp [mkS_len] at hl ⊢; omega), app_mid pre (a)]
theorem heldIntS_ev (l : List Int) (a : Int) (h0 : 0 ≤ a) (ha : a + l.length ≤ 1000000000000000) (hl : l.length ≤ 1048576) : Ev (fun k => laws_heldIntS.f k (mkS l a).2 a) (mkS l a).1 := heldIntS_loop l [] a (by simp; omega)
theorem rd_L2_mid (pre : List (List Int)) (x : List Int) (r : List (List Int)) : rd_L1 (pre ++ x :: r) (pre.length : Int) = x := by simp [rd_L1]
theorem szIntSS_loop : ∀ (r pre : List (List Int)) (a : Int), 0 ≤ a → a ≤ 1048576 → (pre ++ r).length ≤ 9223372036854775807 → (∀ x ∈ r, goodIntS x) → ∃ t, Ev (fun k => laws_szIntSS.l0 k (pre ++ r) a (pre.length : Int)) t ∧ (t < 0 ∨ (0 ≤ t ∧ t + (szSum List.length r : Int) ≤ a)) := by
  intro r
  induction r with
  | nil =>
    intro pre a h0 ha hl hg
    refine ⟨a, ?_, .inr ⟨h0, by simp [szSum]⟩⟩
    refine Ev.step (f := fun _ => some a) (fun k => ?_) (Ev.now _)
    simp only [laws_szIntSS.l0]
    rw [if_neg (nlt_end pre)]
  | cons x r ih =>
    intro pre a h0 ha hl hg
    obtain ⟨t, ht, hc⟩ := szIntS_cases x a h0 ha (hg x (by simp))
    have hE : Ev (fun k => laws_szIntS.f x a) t := ev_some ht
    rcases hc with hc | ⟨hc0, hc1⟩
    · refine ⟨-1, Ev.step (f := fun k => (laws_szIntS.f x a).bind fun t => if t < 0 then some (-1) else laws_szIntSS.l0 k (pre ++ x :: r) t (wrap64 ((pre.length : Int) + 1))) (fun k => ?_) (Ev.bind hE ?_), .inl (by omega)⟩
      · simp only [laws_szIntSS.l0]
        rw [if_pos (lt_mid pre x r), if_pos (zle _), rd_L2_mid]
      · simp only [if_pos hc]
        exact Ev.now _
    · obtain ⟨t2, ht2, h2⟩ := ih (pre ++ [x]) t hc0 (by omega) (by simpa using hl) (fun y hy => hg y (by simp [hy]))
      refine ⟨t2, Ev.step (f := fun k => (laws_szIntS.f x a).bind fun t => if t < 0 then some (-1) else laws_szIntSS.l0 k (pre ++ x :: r) t (wrap64 ((pre.length : Int) + 1))) (fun k => ?_) (Ev.bind hE ?_), ?_⟩
      · simp only [laws_szIntSS.l0]
        rw [if_pos (lt_mid pre x r), if_pos (zle _), rd_L2_mid]
      · simp only [if_neg (show ¬ t < 0 by omega)]
        rw [wr_mid pre x r hl, app_mid pre x r]
        exact ht2
      · rcases h2 with h2 | ⟨h2, h3⟩
        · exact .inl h2
        · exact .inr ⟨h2, by simp only [szSum]; omega⟩
def goodIntSS (l : List (List Int)) : Prop := l.length ≤ 9223372036854775807 ∧ ∀ x ∈ l, goodIntS x
theorem szIntSS_cases (l : List (List Int)) (a : Int) (h0 : 0 ≤ a) (ha : a ≤ 1048576) (hg : goodIntSS l) : ∃ t, Ev (fun k => laws_szIntSS.f k l a) t ∧ (t < 0 ∨ (0 ≤ t ∧ t + (n2 l : Int) ≤ a)) := by
  have hl := hg.1
  unfold laws_szIntSS.f
  rw [wr_id (by omega) (by omega)]
  by_cases h : a - (l.length : Int) < 0
  · exact ⟨-1, by simp only [if_pos h]; exact Ev.now _, .inl (by omega)⟩
  · obtain ⟨t, ht, hc⟩ := szIntSS_loop l [] (a - l.length) (by omega) (by omega) hl hg.2
    refine ⟨t, by simp only [if_neg h]; exact ht, ?_⟩
    rcases hc with hc | ⟨h1, h2⟩
    · exact .inl hc
    · exact .inr ⟨h1, by simp only [n2]; omega⟩
theorem toIntSS_loop (x0 : List (List Int)) (hx : ∀ x ∈ x0, List.length x ≤ 1048576) : ∀ (r pre suf : List (List Int)), x0 = pre ++ r → suf.length = r.length → x0.length ≤ 9223372036854775807 → Ev (fun k => laws_toIntSS.l0 k x0 (pre ++ suf) (pre.length : Int)) x0 := by
  intro r
  induction r with
  | nil =>
    intro pre suf e hs hl
    obtain rfl : suf = [] := List.eq_nil_of_length_eq_zero hs
    subst e
    refine Ev.step (f := fun _ => some _) (fun k => ?_) (Ev.now _)
    simp only [laws_toIntSS.l0]
    rw [if_neg (nlt_end pre)]
  | cons x r ih =>
    intro pre suf e hs hl
    match suf, hs with
    | y :: suf, hs =>
      subst e
      refine Ev.step (f := fun k => (laws_toIntS.f k x).bind fun t => if (pre.length : Int) < ((pre ++ y :: suf).length : Int) then laws_toIntSS.l0 k (pre ++ x :: r) ((pre ++ y :: suf).set ((pre.length : Int)).toNat t) (wrap64 ((pre.length : Int) + 1)) else none) (fun k => ?_) (Ev.bind (toIntS_ev x (hx x (by simp))) ?_)
      · simp only [laws_toIntSS.l0]
        rw [if_pos (lt_mid pre x r), if_pos (zle _), rd_L2_mid]
      · simp only [if_pos (lt_mid pre y suf)]
        rw [set_mid, wr_mid pre x r hl, app_mid pre x suf]
        exact ih (pre ++ [x]) suf (by simp) (by simpa using hs) hl
theorem toIntSS_ev (l : List (List Int)) (hl : n2 l ≤ 1048576) : Ev (fun k => laws_toIntSS.f k l) l := by
  have h1 := szSum_bound List.length l (by simpa only [n2] using hl)
  unfold laws_toIntSS.f
  simp only [if_pos (zle l.length), if_pos (show ((l.length : Int)).toNat ≤ 11728124029610 by omega)]
  exact toIntSS_loop l h1.2 l [] _ rfl (by simp) (by omega)
theorem eqIntSS_loop : ∀ (r s pre qre : List (List Int)), pre.length = qre.length → r.length = s.length → (pre ++ r).length ≤ 9223372036854775807 → (∀ x ∈ r, List.length x ≤ 1048576) → Ev (fun k => laws_eqIntSS.l0 k (pre ++ r) (qre ++ s) (pre.length : Int)) (decide (r = s)) := by
  intro r
  induction r with
  | nil =>
    intro s pre qre hp hs hl hx
    obtain rfl : s = [] := List.eq_nil_of_length_eq_zero hs.symm
    refine Ev.step (f := fun _ => some _) (fun k => ?_) (Ev.now _)
    simp only [laws_eqIntSS.l0]
    rw [if_neg (nlt_end pre)]
    rfl
  | cons x r ih =>
    intro s pre qre hp hs hl hx
    match s, hs with
    | y :: s, hs =>
      refine Ev.step (f := fun k => (laws_eqIntS.f k x y).bind fun t => if t = true then laws_eqIntSS.l0 k (pre ++ x :: r) (qre ++ y :: s) (wrap64 ((pre.length : Int) + 1)) else some false) (fun k => ?_) (Ev.bind (eqIntS_ev x y (hx x (by simp))) ?_)
      · simp only [laws_eqIntSS.l0]
        rw [if_pos (lt_mid pre x r), if_pos (zle _), if_pos (by rw [hp]; exact lt_mid qre y s), rd_L2_mid, hp, rd_L2_mid, ← hp]
      · by_cases e : x = y
        · subst e
          simp only [decide_true, if_true]
          rw [wr_mid pre x r hl, app_mid pre x r, app_mid qre x s]
          exact ev_eq (ih s (pre ++ [x]) (qre ++ [x]) (by simp [hp]) (by simpa using hs) (by simpa using hl) (fun y hy => hx y (by simp [hy]))) (by simp)
        · simp only [decide_eq_false e, if_neg Bool.false_ne_true]
          exact ev_eq (Ev.now _) (by simp [e])
theorem eqIntSS_ev (l s : List (List Int)) (hl : n2 l ≤ 1048576) : Ev (fun k => laws_eqIntSS.f k l s) (decide (l = s)) := by
  have h1 := szSum_bound List.length l (by simpa only [n2] using hl)
  unfold laws_eqIntSS.f
  by_cases h : l.length = s.length
  · simp only [if_pos (show (l.length : Int) = (s.length : Int) by omega)]
    exact eqIntSS_loop l s [] [] rfl h (by simp; omega) h1.2
  · simp only [if_neg (show ¬ (l.length : Int) = (s.length : Int) by omega)]
    refine ev_eq (Ev.now _) ?_
    have : l ≠ s := fun e => h (by rw [e])
    simp [this]
theorem good2 {l : List (List Int)} (h : goodL (goodL goodI) l) : goodIntSS l := ⟨h.1, fun x hx => (h.2 x hx).1⟩
theorem szKeep_cases (f0 : Int) (f1 : List (List Int)) (f2 : Int) (a : Int) (h0 : 0 ≤ a) (ha : a ≤ 1048576) (g1 : goodIntSS f1) : ∃ t, Ev (fun k => laws_szKeep.f k f0 f1 f2 a) t ∧ (t < 0 ∨ (0 ≤ t ∧ t + (n2 f1 : Int) ≤ a)) := by
  obtain ⟨t, ht, hc⟩ := szIntSS_cases f1 a h0 ha g1
  refine ⟨if t < 0 then -1 else t, Ev.bind ht (by by_cases h : t < 0 <;> simp only [h, if_true, if_false] <;> exact Ev.now _), ?_⟩
  rcases hc with hc | ⟨hc, h2⟩
  · exact .inl (by rw [if_pos hc]; omega)
  · rw [if_neg (by omega)]; exact .inr ⟨hc, h2⟩
theorem toKeep_ev (f0 : Int) (f1 : List (List Int)) (f2 : Int) (h1 : n2 f1 ≤ 1048576) : Ev (fun k => laws_toKeep.f k f0 f1 f2) (f0, f1, f2) := Ev.bind (toIntSS_ev f1 h1) (Ev.now _)
theorem eqKeep_ev (f0 : Int) (f1 : List (List Int)) (f2 : Int) (s0 : Int) (s1 : List (List Int)) (s2 : Int) (h1 : n2 f1 ≤ 1048576) : Ev (fun k => laws_eqKeep.f k f0 f1 f2 s0 s1 s2) (decide ((f0, f1, f2) = (s0, s1, s2))) := by
  obtain ⟨K1, e1⟩ := eqIntSS_ev f1 s1 h1
  refine ⟨K1, fun k hk => ?_⟩
  unfold laws_eqKeep.f
  simp only [e1 k (by omega), Option.bind_some]
  by_cases q0 : f0 = s0 <;> try simp only [q0, decide_true, decide_false, if_true, if_false, Bool.false_eq_true, beq_self_eq_true]
  by_cases q1 : f1 = s1 <;> try simp only [q1, decide_true, decide_false, if_true, if_false, Bool.false_eq_true, beq_self_eq_true]
  by_cases q2 : f2 = s2 <;> try simp only [q2, decide_true, decide_false, if_true, if_false, Bool.false_eq_true, beq_self_eq_true]
  all_goals simp_all
theorem markKeep_ev (f0 : Int) (f1 : List (List Int)) (f2 : Int) (a : Int) (h1 : n2 f1 ≤ 1048576) : laws_markKeep.f f0 f1 f2 a = some ((mkSS f1 (a)).1, (mkSS f1 (a)).2) := rfl
end Go.Proofs.Ytcjjhkapdlfaeaa.Pure

namespace Go.Proofs.Ytcjjhkapdlfaeaa.Pure
open Go.RowKit Go.Proofs.Ytcjjhkapdlfaeaa.C1 Go.Proofs.Ytcjjhkapdlfaeaa.H Go.Proofs.YtcjjhkapdlfaeaaW.PrintWords Go.Proofs.YtcjjhkapdlfaeaaW.PrintLast Go.Proofs.YtcjjhkapdlfaeaaW.PrintMore
set_option linter.unusedVariables false
set_option linter.unusedSimpArgs false
theorem in_eq (a b c : Int) : impl_in.f a b c = some (inB b c a) := by
  unfold impl_in.f inB
  by_cases h : b ≤ a <;> simp [h]
theorem l1In_eq (a b c : Int) : spec_l1In.f a b c = some (inB b c a) := by
  unfold spec_l1In.f inB
  by_cases h : b ≤ a <;> simp [h]
theorem areIn_eq (l : List Int) (a b c d : Int) : impl_areIn.f l a b c d = some (inB c d (l.length : Int) && l.all (inB a b)) := rfl
end Go.Proofs.Ytcjjhkapdlfaeaa.Pure

namespace Go.Proofs.Ytcjjhkapdlfaeaa.Pure
open Go.RowKit Go.Proofs.Ytcjjhkapdlfaeaa.C1 Go.Proofs.Ytcjjhkapdlfaeaa.H Go.Proofs.YtcjjhkapdlfaeaaW.PrintWords Go.Proofs.YtcjjhkapdlfaeaaW.PrintLast Go.Proofs.YtcjjhkapdlfaeaaW.PrintMore
set_option linter.unusedVariables false
set_option linter.unusedSimpArgs false
def risF (p : Int) : List Int → Bool
  | [] => true
  | y :: r => decide (p < y) && risF y r
def risP : List Int → Bool
  | [] => true
  | x :: r => risF x r
theorem rd_mid1 (pre : List Int) (p y : Int) (r : List Int) : rd (pre ++ p :: y :: r) ((pre.length : Int) + 1) = y := by
  have h : ((pre.length : Int) + 1).toNat = pre.length + 1 := by omega
  simp [rd, h]
theorem lt_mid1 (pre : List Int) (p y : Int) (r : List Int) : (pre.length : Int) + 1 < ((pre ++ p :: y :: r).length : Int) := by simp; omega
theorem nlt_end1 (pre : List Int) (p : Int) : ¬ (pre.length : Int) + 1 < ((pre ++ p :: ([] : List Int)).length : Int) := by simp
theorem wr_mid1 (pre : List Int) (p y : Int) (r : List Int) (h : (pre ++ p :: y :: r).length ≤ 9223372036854775807) : wrap64 ((pre.length : Int) + 1 + 1) = ((pre ++ [p]).length : Int) + 1 := by
  simp only [List.length_append, List.length_cons] at h
  rw [wr_id (by omega) (by omega)]
  simp
theorem wr_pred (pre : List Int) (h : pre.length ≤ 9223372036854775806) : wrap64 ((pre.length : Int) + 1 - 1) = (pre.length : Int) := by
  rw [wr_id (by omega) (by omega)]
  omega
theorem rising_cat (pre : List Int) (p : Int) (r : List Int) : pre ++ p :: r = (pre ++ [p]) ++ r := by simp
theorem l1Rising_loop (lo hi : Int) : ∀ (r pre : List Int) (p : Int), (pre ++ p :: r).length ≤ 9223372036854775807 → Ev (fun k => spec_l1Rising.l0 k (pre ++ p :: r) lo hi (pre ++ p :: r) ((pre ++ p :: r).length : Int) ((pre.length : Int) + 1)) (r.all (inB lo hi) && risF p r) := by
  intro r
  induction r with
  | nil =>
    intro pre p hl
    refine Ev.step (f := fun _ => some true) (fun k => ?_) (Ev.now _)
    simp only [spec_l1Rising.l0]
    rw [if_neg (nlt_end1 pre p)]
  | cons y r ih =>
    intro pre p hl
    have hl' := hl
    simp only [List.length_append, List.length_cons] at hl'
    cases hy : inB lo hi y with
    | false =>
      refine Ev.step (f := fun _ => some false) (fun k => ?_) (ev_eq (Ev.now _) (by simp [hy]))
      simp only [spec_l1Rising.l0]
      rw [if_pos (lt_mid1 pre p y r), if_pos (by omega), if_pos (lt_mid1 pre p y r), rd_mid1, l1In_eq, hy, Option.bind_some, if_neg (by simp)]
    | true =>
      by_cases c : p < y
      · refine Ev.step (fun k => ?_) (ev_eq (ih (pre ++ [p]) y (by simpa using hl)) (by simp [risF, c, hy]))
        simp only [spec_l1Rising.l0]
        rw [if_pos (lt_mid1 pre p y r), if_pos (by omega), if_pos (lt_mid1 pre p y r), rd_mid1, l1In_eq, hy, Option.bind_some, if_pos rfl, if_pos (by omega), wr_pred pre (by omega), if_pos (zle _), if_pos (lt_mid pre p (y :: r)), rd_mid, if_neg (by omega), wr_mid1 pre p y r hl, rising_cat pre p (y :: r)]
      · refine Ev.step (f := fun _ => some false) (fun k => ?_) (ev_eq (Ev.now _) (by simp [risF, c]))
        simp only [spec_l1Rising.l0]
        rw [if_pos (lt_mid1 pre p y r), if_pos (by omega), if_pos (lt_mid1 pre p y r), rd_mid1, l1In_eq, hy, Option.bind_some, if_pos rfl, if_pos (by omega), wr_pred pre (by omega), if_pos (zle _), if_pos (lt_mid pre p (y :: r)), rd_mid, if_pos (by omega)]
theorem l1Rising_ev (l : List Int) (lo hi : Int) (hl : l.length ≤ 9223372036854775807) : Ev (fun k => spec_l1Rising.f k l lo hi) (l.all (inB lo hi) && risP l) := by
  cases l with
  | nil =>
    refine Ev.step (f := fun _ => some true) (fun k => ?_) (Ev.now _)
    simp [spec_l1Rising.f, spec_l1Rising.l0]
  | cons x r =>
    cases hx : inB lo hi x with
    | false =>
      refine Ev.step (f := fun _ => some false) (fun k => ?_) (ev_eq (Ev.now _) (by simp [hx]))
      simp only [spec_l1Rising.f, spec_l1Rising.l0]
      rw [if_pos (show (0 : Int) < ((x :: r).length : Int) by simp only [List.length_cons]; omega), if_pos (Int.le_refl _), if_pos (show (0 : Int) < ((x :: r).length : Int) by simp only [List.length_cons]; omega), show rd (x :: r) 0 = x from rfl, l1In_eq, hx, Option.bind_some, if_neg (by simp)]
    | true =>
      refine Ev.step (fun k => ?_) (ev_eq (l1Rising_loop lo hi r [] x hl) (by simp [hx, risP]))
      simp only [spec_l1Rising.f, spec_l1Rising.l0]
      rw [if_pos (show (0 : Int) < ((x :: r).length : Int) by simp only [List.length_cons]; omega), if_pos (Int.le_refl _), if_pos (show (0 : Int) < ((x :: r).length : Int) by simp only [List.length_cons]; omega), show rd (x :: r) 0 = x from rfl, l1In_eq, hx, Option.bind_some, if_pos rfl, if_neg (by omega), show wrap64 (0 + 1) = ((([] : List Int).length : Int) + 1) from wr_id (by omega) (by omega)]
      rfl
end Go.Proofs.Ytcjjhkapdlfaeaa.Pure

namespace Go.Proofs.Ytcjjhkapdlfaeaa.Pure
open Go.RowKit Go.Proofs.Ytcjjhkapdlfaeaa.C1 Go.Proofs.Ytcjjhkapdlfaeaa.H Go.Proofs.YtcjjhkapdlfaeaaW.PrintWords Go.Proofs.YtcjjhkapdlfaeaaW.PrintLast Go.Proofs.YtcjjhkapdlfaeaaW.PrintMore
set_option linter.unusedVariables false
set_option linter.unusedSimpArgs false
def mv (v : Bool) : List Int → List Bool → List Bool
  | [], o => o
  | x :: r, o => mv v r (o.set x.toNat v)
end Go.Proofs.Ytcjjhkapdlfaeaa.Pure

namespace Go.Proofs.Ytcjjhkapdlfaeaa.Pure
open Go.RowKit Go.Proofs.Ytcjjhkapdlfaeaa.C1 Go.Proofs.Ytcjjhkapdlfaeaa.H Go.Proofs.YtcjjhkapdlfaeaaW.PrintWords Go.Proofs.YtcjjhkapdlfaeaaW.PrintLast Go.Proofs.YtcjjhkapdlfaeaaW.PrintMore
set_option linter.unusedVariables false
set_option linter.unusedSimpArgs false
end Go.Proofs.Ytcjjhkapdlfaeaa.Pure

namespace Go.Proofs.Ytcjjhkapdlfaeaa.Pure
open Go.RowKit Go.Proofs.Ytcjjhkapdlfaeaa.C1 Go.Proofs.Ytcjjhkapdlfaeaa.H Go.Proofs.YtcjjhkapdlfaeaaW.PrintWords Go.Proofs.YtcjjhkapdlfaeaaW.PrintLast Go.Proofs.YtcjjhkapdlfaeaaW.PrintMore
set_option linter.unusedVariables false
set_option linter.unusedSimpArgs false
end Go.Proofs.Ytcjjhkapdlfaeaa.Pure

namespace Go.Proofs.Ytcjjhkapdlfaeaa.Pure
open Go.RowKit Go.Proofs.Ytcjjhkapdlfaeaa.C1 Go.Proofs.Ytcjjhkapdlfaeaa.H Go.Proofs.YtcjjhkapdlfaeaaW.PrintWords Go.Proofs.YtcjjhkapdlfaeaaW.PrintLast Go.Proofs.YtcjjhkapdlfaeaaW.PrintMore
set_option linter.unusedVariables false
set_option linter.unusedSimpArgs false
def sideP (b : Bool) : List Bool → Nat → List Int
  | [], _ => []
  | x :: r, i => if x == b then (i : Int) :: sideP b r (i + 1) else sideP b r (i + 1)
theorem side_loop (b : Bool) : ∀ (r pre : List Bool) (acc : List Int), (pre ++ r).length ≤ 1048576 → acc.length + r.length ≤ 1048576 → Ev (fun k => impl_State_side.l0 k b acc (pre ++ r) ((pre ++ r).length : Int) (pre.length : Int)) (acc ++ sideP b r pre.length) := by
  intro r
  induction r with
  | nil =>
    intro pre acc hl ha
    refine Ev.step (f := fun _ => some _) (fun k => ?_) (Ev.now _)
    simp only [impl_State_side.l0]
    rw [if_neg (nlt_end pre)]
    simp [sideP]
  | cons x r ih =>
    intro pre acc hl ha
    simp only [List.length_cons] at ha
    cases hx : x == b with
    | true =>
      refine Ev.step (fun k => ?_) (ev_eq (ih (pre ++ [x]) (acc ++ [(pre.length : Int)]) (by simpa using hl) (by simp; omega)) (by simp [sideP, hx]))
      simp only [impl_State_side.l0]
      rw [if_pos (lt_mid pre x r), if_pos (zle _), if_pos (lt_mid pre x r), rdOf_mid, hx, if_pos rfl, if_pos (by omega), wr_mid pre x r (by omega), app_mid pre x r]
    | false =>
      refine Ev.step (fun k => ?_) (ev_eq (ih (pre ++ [x]) acc (by simpa using hl) (by omega)) (by simp [sideP, hx]))
      simp only [impl_State_side.l0]
      rw [if_pos (lt_mid pre x r), if_pos (zle _), if_pos (lt_mid pre x r), rdOf_mid, hx, if_neg (by simp), wr_mid pre x r (by omega), app_mid pre x r]
theorem side_ev (st : List Bool) (t b : Bool) (hs : st.length ≤ 1048576) : Ev (fun k => impl_State_side.f k st t b) (sideP b st 0) := side_loop b st [] [] (by simpa using hs) (by simpa using hs)
def begP : List Int → List (List Int)
  | [] => []
  | x :: l => [x :: l]
theorem begP_len (l : List Int) : (begP l).length ≤ 1 := by cases l <;> simp [begP]
theorem l1Own_eq (l : List Int) (h : l.length ≤ 1048576) : spec_l1Own.f l = some l := by
  unfold spec_l1Own.f
  rw [Option.bind_some, if_pos (by simp; omega)]
  simp
theorem grp_loop (lo : Nat) (m : Int) (ps : List Int) (hp : ps.length ≤ 20) (l : List Int) (hl : l.length ≤ 20) (hm : (l.length : Int) < m)
    (IH : ∀ (from_ : Nat) (l' : List Int), lo < from_ → from_ ≤ ps.length → l'.length = l.length + 1 → Ev (fun k => spec_paGroups.f k ps l' (from_ : Int) m) (begP l' ++ grpsF m (ps.drop from_) l')) :
    ∀ (d i : Nat) (acc : List (List Int)), ps.length - i = d → i ≤ ps.length → lo ≤ i → acc.length + 2 ^ d ≤ 4194304 → Ev (fun k => spec_paGroups.l0 k ps l m acc (i : Int)) (acc ++ grpsF m (ps.drop i) l) := by
  intro d
  induction d with
  | zero =>
    intro i acc hd hi hlo ha
    have : i = ps.length := by omega
    subst this
    refine Ev.step (f := fun _ => some _) (fun k => ?_) (Ev.now _)
    simp only [spec_paGroups.l0]
    rw [if_neg (by omega)]
    simp [grpsF]
  | succ d ih =>
    intro i acc hd hi hlo ha
    have hlt : i < ps.length := by omega
    have hdr : ps.drop i = rd ps (i : Nat) :: ps.drop (i + 1) := by
      rw [List.drop_eq_getElem_cons hlt]
      simp [rd, List.getD_eq_getElem?_getD, List.getElem?_eq_getElem hlt]
    have hg := IH (i + 1) (l ++ [rd ps (i : Nat)]) (by omega) (by omega) (by simp)
    have hlen : (begP (l ++ [rd ps (i : Nat)]) ++ grpsF m (ps.drop (i + 1)) (l ++ [rd ps (i : Nat)])).length ≤ 2 ^ d := by
      have h1 := grpsF_len m (ps.drop (i + 1)) (l ++ [rd ps (i : Nat)])
      have h2 := begP_len (l ++ [rd ps (i : Nat)])
      rw [List.length_drop, show ps.length - (i + 1) = d by omega] at h1
      rw [List.length_append]
      omega
    rw [Nat.pow_succ] at ha
    have hb : begP (l ++ [rd ps (i : Nat)]) = [l ++ [rd ps (i : Nat)]] := by cases l <;> rfl
    have he : acc ++ grpsF m (ps.drop i) l = (acc ++ (begP (l ++ [rd ps (i : Nat)]) ++ grpsF m (ps.drop (i + 1)) (l ++ [rd ps (i : Nat)]))) ++ grpsF m (ps.drop (i + 1)) l := by
      rw [hdr, grpsF, if_pos hm, hb]
      simp
    rw [he]
    refine Ev.step (f := fun k => (spec_paGroups.f k ps (l ++ [rd ps (i : Nat)]) ((i + 1 : Nat) : Int) m).bind fun t => (if acc.length + t.length < 5864062014805 then (spec_paGroups.l0 k ps l m (acc ++ t) ((i + 1 : Nat) : Int)) else (none))) (fun k => ?_) (Ev.bind hg ?_)
    · simp only [spec_paGroups.l0]
      rw [if_pos (by omega), show spec_l1Own.f l = some l from l1Own_eq l (by omega), Option.bind_some, if_pos (zle _), Option.bind_some, if_pos (by simp; omega), show wrap64 ((i : Int) + 1) = ((i + 1 : Nat) : Int) from wr_id (by omega) (by omega)]
    · try dsimp only
      have hc : acc.length + (begP (l ++ [rd ps (i : Nat)]) ++ grpsF m (ps.drop (i + 1)) (l ++ [rd ps (i : Nat)])).length < 5864062014805 := by
        have : 0 < 2 ^ d := Nat.pow_pos (by omega)
        omega
      simp only [if_pos hc]
      exact ih (i + 1) _ (by omega) (by omega) (by omega) (by rw [List.length_append]; omega)
theorem paGroups_ev (m : Int) (ps : List Int) (hp : ps.length ≤ 20) : ∀ (d from_ : Nat) (l : List Int), ps.length - from_ = d → from_ ≤ ps.length → l.length + d ≤ 20 → (l.length : Int) ≤ m → Ev (fun k => spec_paGroups.f k ps l (from_ : Int) m) (begP l ++ grpsF m (ps.drop from_) l) := by
  intro d
  induction d using Nat.strongRecOn with
  | ind d ih =>
  intro from_ l hd hf hl hm
  have hj : ∀ acc : List (List Int), acc.length ≤ 1 → Ev (fun k => spec_paGroups.j0 k ps l (from_ : Int) m acc) (acc ++ grpsF m (ps.drop from_) l) := by
    intro acc ha
    by_cases hc : (l.length : Int) = m
    · refine Ev.step (f := fun _ => some acc) (fun k => ?_) (ev_eq (Ev.now _) ?_)
      · simp only [spec_paGroups.j0]
        rw [if_pos hc]
      · cases ps.drop from_ with
        | nil => simp [grpsF]
        | cons x r => rw [grpsF, if_neg (by omega)]; simp
    · refine Ev.step (f := fun k => spec_paGroups.l0 k ps l m acc (from_ : Int)) (fun k => ?_) ?_
      · simp only [spec_paGroups.j0]
        rw [if_neg hc]
      · refine grp_loop from_ m ps hp l (by omega) (by omega) (fun f' l' h0 h1 h2 => ?_) d from_ acc hd hf (Nat.le_refl _) ?_
        · exact ih (ps.length - f') (by omega) f' l' rfl h1 (by omega) (by omega)
        · have : 2 ^ d ≤ 2 ^ 20 := Nat.pow_le_pow_right (by omega) (by omega)
          omega
  cases l with
  | nil =>
    refine Ev.step (f := fun k => spec_paGroups.j0 k ps [] (from_ : Int) m []) (fun k => ?_) (hj [] (by simp))
    simp [spec_paGroups.f]
  | cons x l =>
    refine Ev.step (f := fun k => spec_paGroups.j0 k ps (x :: l) (from_ : Int) m [x :: l]) (fun k => ?_) (hj [x :: l] (by simp))
    simp only [spec_paGroups.f]
    rw [if_pos (by simp only [List.length_cons]; omega), show spec_l1Own.f (x :: l) = some (x :: l) from l1Own_eq _ (by omega), Option.bind_some, Option.bind_some, if_pos (by simp)]
    simp
end Go.Proofs.Ytcjjhkapdlfaeaa.Pure

namespace Go.Proofs.Ytcjjhkapdlfaeaa.Pure
open Go.RowKit Go.Proofs.Ytcjjhkapdlfaeaa.C1 Go.Proofs.Ytcjjhkapdlfaeaa.H Go.Proofs.YtcjjhkapdlfaeaaW.PrintWords Go.Proofs.YtcjjhkapdlfaeaaW.PrintLast Go.Proofs.YtcjjhkapdlfaeaaW.PrintMore
set_option linter.unusedVariables false
set_option linter.unusedSimpArgs false
end Go.Proofs.Ytcjjhkapdlfaeaa.Pure

namespace Go.Proofs.Ytcjjhkapdlfaeaa.Pure
open Go.RowKit Go.Proofs.Ytcjjhkapdlfaeaa.C1 Go.Proofs.Ytcjjhkapdlfaeaa.H Go.Proofs.YtcjjhkapdlfaeaaW.PrintWords Go.Proofs.YtcjjhkapdlfaeaaW.PrintLast Go.Proofs.YtcjjhkapdlfaeaaW.PrintMore
set_option linter.unusedVariables false
set_option linter.unusedSimpArgs false
theorem grpsF_mem (m : Int) : ∀ (r l g : List Int), g ∈ grpsF m r l ↔ ∃ t, t ≠ [] ∧ t.Sublist r ∧ g = l ++ t ∧ ((l.length + t.length : Nat) : Int) ≤ m := by
  intro r
  induction r with
  | nil =>
    intro l g
    simp only [grpsF, List.not_mem_nil, false_iff]
    rintro ⟨t, h1, h2, _⟩
    exact h1 (List.eq_nil_of_sublist_nil h2)
  | cons x r ih =>
    intro l g
    simp only [grpsF]
    split
    · rename_i hl
      simp only [List.mem_cons, List.mem_append, ih]
      constructor
      · rintro (rfl | ⟨t, h1, h2, rfl, h3⟩ | ⟨t, h1, h2, rfl, h3⟩)
        · exact ⟨[x], by simp, by simp, rfl, by simp; omega⟩
        · exact ⟨x :: t, by simp, h2.cons_cons x, by simp, by simp only [List.length_append, List.length_cons, List.length_nil] at h3 ⊢; omega⟩
        · exact ⟨t, h1, h2.cons x, rfl, h3⟩
      · rintro ⟨t, h1, h2, rfl, h3⟩
        cases h2 with
        | cons _ h2 => exact .inr (.inr ⟨t, h1, h2, rfl, h3⟩)
        | @cons_cons t' _ _ h2 =>
          by_cases ht : t' = []
          · subst ht; exact .inl rfl
          · exact .inr (.inl ⟨t', ht, h2, by simp, by simp only [List.length_append, List.length_cons, List.length_nil] at h3 ⊢; omega⟩)
    · rename_i hl
      simp only [List.not_mem_nil, false_iff]
      rintro ⟨t, h1, h2, rfl, h3⟩
      have : 0 < t.length := List.length_pos_iff.2 h1
      omega
end Go.Proofs.Ytcjjhkapdlfaeaa.Pure

namespace Go.Proofs.Ytcjjhkapdlfaeaa.Pure
open Go.RowKit Go.Proofs.Ytcjjhkapdlfaeaa.C1 Go.Proofs.Ytcjjhkapdlfaeaa.H Go.Proofs.YtcjjhkapdlfaeaaW.PrintWords Go.Proofs.YtcjjhkapdlfaeaaW.PrintLast Go.Proofs.YtcjjhkapdlfaeaaW.PrintMore
set_option linter.unusedVariables false
set_option linter.unusedSimpArgs false
theorem l1Has_loop (x : Int) : ∀ (r pre : List Int), (pre ++ r).length ≤ 1048576 → Ev (fun k => spec_l1Has.l0 k x (pre ++ r) ((pre ++ r).length : Int) (pre.length : Int)) (decide (x ∈ r)) := by
  intro r
  induction r with
  | nil =>
    intro pre hl
    refine Ev.step (fun k => spec_l1Has.l0.eq_2 ..) ?_
    simp only [if_neg (nlt_end pre)]
    exact Ev.now _
  | cons y r ih =>
    intro pre hl
    refine Ev.step (fun k => spec_l1Has.l0.eq_2 ..) ?_
    rw [rd_mid]
    simp only [if_pos (lt_mid pre y r), if_pos (zle pre.length)]
    by_cases h : y = x
    · simp only [if_pos h]
      exact ev_eq (Ev.now _) (by simp [h])
    · simp only [if_neg h]
      rw [wr_mid pre y r (by omega), app_mid pre y r]
      exact ev_eq (ih (pre ++ [y]) (by simpa using hl)) (by simp [show ¬ x = y from fun e => h e.symm])
theorem l1Has_ev (x : Int) (q : List Int) (h : q.length ≤ 1048576) : Ev (fun k => spec_l1Has.f k q x) (decide (x ∈ q)) := l1Has_loop x q [] (by simpa using h)
end Go.Proofs.Ytcjjhkapdlfaeaa.Pure

namespace Go.Proofs.Ytcjjhkapdlfaeaa.Pure
open Go.RowKit Go.Proofs.Ytcjjhkapdlfaeaa.C1 Go.Proofs.Ytcjjhkapdlfaeaa.H Go.Proofs.YtcjjhkapdlfaeaaW.PrintWords Go.Proofs.YtcjjhkapdlfaeaaW.PrintLast Go.Proofs.YtcjjhkapdlfaeaaW.PrintMore
set_option linter.unusedVariables false
set_option linter.unusedSimpArgs false
theorem rdL2_midK (pre : List (List Int)) (x : List Int) (r : List (List Int)) : rd_L1 (pre ++ x :: r) (pre.length : Int) = x := rdOf_mid [] pre x r
theorem rdL2_prevK (pre : List (List Int)) (q x : List Int) (r : List (List Int)) : rd_L1 ((pre ++ [q]) ++ x :: r) (((pre ++ [q]).length : Int) - 1) = q := by
  rw [List.append_assoc, show (((pre ++ [q]).length : Int) - 1) = (pre.length : Int) by simp]
  exact rdOf_mid [] pre q (x :: r)
def dOk (n : Int) (d : List Int) : Bool := decide (d.length = 2) && (d.all (inB 0 (n - 1)) && risP d)
def bef (a b : List Int) : Bool := decide (rd a 0 < rd b 0) || (decide (rd a 0 = rd b 0) && decide (rd a 1 < rd b 1))
def pvB : Option (List Int) → List Int → Bool
  | none, _ => true
  | some q, d => bef q d
def ksB (n : Int) : Option (List Int) → List (List Int) → Bool
  | _, [] => true
  | p, d :: r => dOk n d && (pvB p d && ksB n (some d) r)
def goodK (n : Int) (l : List (List Int)) (m : Int) : Bool := inB 0 8 n && (inB 0 8 m && ksB n none l)
theorem len2 {d : List Int} (h : d.length = 2) : ∃ a b, d = [a, b] := by
  match d, h with
  | [a, b], _ => exact ⟨a, b, rfl⟩
theorem dOk_two {n : Int} {d : List Int} (h : dOk n d = true) : ∃ a b, d = [a, b] ∧ 0 ≤ a ∧ a < b ∧ b < n := by
  unfold dOk at h
  simp only [Bool.and_eq_true, decide_eq_true_eq] at h
  obtain ⟨h1, h2, h3⟩ := h
  obtain ⟨a, b, rfl⟩ := len2 h1
  simp only [List.all_cons, List.all_nil, Bool.and_eq_true, inB, decide_eq_true_eq, risP, risF] at h2 h3
  exact ⟨a, b, rfl, by omega, by omega, by omega⟩
theorem ksB_all {n : Int} : ∀ (l : List (List Int)) (p : Option (List Int)), ksB n p l = true → ∀ d ∈ l, dOk n d = true := by
  intro l
  induction l with
  | nil => intro p _ d hd; cases hd
  | cons x l ih =>
    intro p h d hd
    simp only [ksB, Bool.and_eq_true] at h
    rcases List.mem_cons.1 hd with rfl | hd
    · exact h.1
    · exact ih _ h.2.2 d hd
theorem cmp_val (a b : Int) : cmp_Compare_int.f a b = some (if a < b then -1 else if a > b then 1 else 0) := by
  unfold cmp_Compare_int.f cmp_isNaN_int.f
  by_cases h1 : a < b
  · simp [h1]
  · by_cases h2 : a > b
    · simp [h1, h2]
    · simp [h1, h2]
theorem compare2_ev (a b e f : Int) : ∃ c, Ev (fun k => slices_Compare_int_int.f k [a, b] [e, f]) c ∧ (c ≥ 0 ↔ bef [a, b] [e, f] = false) := by
  have w1 : wrap64 1 = 1 := wr_id (by omega) (by omega)
  have w2 : wrap64 2 = 2 := wr_id (by omega) (by omega)
  unfold slices_Compare_int_int.f
  have r0 : rd [a, b] 0 = a := rfl
  have r1 : rd [a, b] 1 = b := rfl
  have s0 : rd [e, f] 0 = e := rfl
  have s1 : rd [e, f] 1 = f := rfl
  have l1 : (([a, b] : List Int).length : Int) = 2 := rfl
  have l2 : (([e, f] : List Int).length : Int) = 2 := rfl
  unfold bef
  rw [r0, r1, s0, s1]
  by_cases h1 : a = e
  · subst h1
    by_cases h2 : b = f
    · subst h2
      refine ⟨0, ?_, by simp⟩
      refine Ev.step (fun k => slices_Compare_int_int.l0.eq_2 ..) ?_
      simp [l1, cmp_val, w1, r0, s0]
      refine Ev.step (fun k => slices_Compare_int_int.l0.eq_2 ..) ?_
      simp [l1, cmp_val, w2, r1, s1]
      refine Ev.step (fun k => slices_Compare_int_int.l0.eq_2 ..) ?_
      simp [l1]
      exact Ev.now _
    · refine ⟨if b < f then -1 else 1, ?_, ?_⟩
      · refine Ev.step (fun k => slices_Compare_int_int.l0.eq_2 ..) ?_
        simp [l1, l2, cmp_val, w1, r0, s0]
        refine Ev.step (fun k => slices_Compare_int_int.l0.eq_2 ..) ?_
        by_cases h3 : b < f
        · simp [l1, l2, cmp_val, r1, s1, h3]
          exact Ev.now _
        · have h4 : f < b := by omega
          simp [l1, l2, cmp_val, r1, s1, h3, h4]
          exact Ev.now _
      · by_cases h3 : b < f
        · simp [h3]
        · simp [h3]
  · refine ⟨if a < e then -1 else 1, ?_, ?_⟩
    · refine Ev.step (fun k => slices_Compare_int_int.l0.eq_2 ..) ?_
      by_cases h3 : a < e
      · simp [l1, l2, cmp_val, r0, s0, h3]
        exact Ev.now _
      · have h4 : e < a := by omega
        simp [l1, l2, cmp_val, r0, s0, h3, h4]
        exact Ev.now _
    · by_cases h3 : a < e
      · simp [h3]
      · simp [h3, h1]
def PrevK (p : Option (List Int)) (pre : List (List Int)) : Prop := (p = none ∧ pre = []) ∨ ∃ pre' q, p = some q ∧ pre = pre' ++ [q] ∧ q.length = 2
theorem keBefore_val {q d : List Int} (hq : q.length = 2) (hd : d.length = 2) : spec_keBefore.f q d = some (bef q d) := by
  unfold spec_keBefore.f bef
  rw [hq, hd]
  by_cases h1 : rd q 0 < rd d 0
  · simp [h1]
  · by_cases h2 : rd q 0 = rd d 0
    · simp [h2]
    · simp [h1, h2]
theorem keGood_loop (n m : Int) (l : List (List Int)) (hn : 0 ≤ n ∧ n ≤ 8) (hl : l.length ≤ 1048576) (hlen : ∀ d ∈ l, d.length ≤ 1048576) : ∀ (r pre : List (List Int)) (p : Option (List Int)), l = pre ++ r → PrevK p pre → Ev (fun k => spec_keGood.l0 k l (l.length : Int) (pre.length : Int) n l m) (ksB n p r) := by
  have hw : wrap64 (n - 1) = n - 1 := wr_id (by omega) (by omega)
  intro r
  induction r with
  | nil =>
    intro pre p e hp
    rw [List.append_nil] at e
    subst e
    refine Ev.step (fun k => spec_keGood.l0.eq_2 ..) ?_
    simp only [if_neg (show ¬ (l.length : Int) < (l.length : Int) by omega), ksB]
    exact Ev.now _
  | cons d r ih =>
    intro pre p e hp
    have hdl := hlen d (by rw [e]; simp)
    have hrd : rd_L1 l (pre.length : Int) = d := by rw [e]; exact rdL2_midK pre d r
    have hpl : (pre.length : Int) < (l.length : Int) := by rw [e]; simp; omega
    have hwp : wrap64 ((pre.length : Int) + 1) = ((pre ++ [d]).length : Int) := by rw [wr_id (by omega) (by omega)]; simp
    refine Ev.step (fun k => spec_keGood.l0.eq_2 ..) ?_
    simp only [if_pos hpl, if_pos (show 0 ≤ (pre.length : Int) by omega), hrd, hw, ksB]
    have hj : ∀ b : Bool, (b = true → d.length = 2) → Ev (fun k => spec_keGood.j2 k (pre.length : Int) d l (l.length : Int) (pre.length : Int) (!b) n l m) (b && (pvB p d && ksB n (some d) r)) := by
      intro b hb
      refine Ev.step (fun k => spec_keGood.j2.eq_2 ..) ?_
      cases b with
      | false => simp only [Bool.not_false, if_true, Bool.false_and]; exact Ev.now _
      | true =>
        have hd2 := hb rfl
        simp only [Bool.not_true, Bool.false_eq_true, if_false, Bool.true_and]
        have hnext := ih (pre ++ [d]) (some d) (by rw [e]; simp) (.inr ⟨pre, d, rfl, rfl, hd2⟩)
        rcases hp with ⟨rfl, rfl⟩ | ⟨pre', q, rfl, rfl, hq2⟩
        · simp only [List.length_nil, Int.natCast_zero, if_neg (show ¬ (0 : Int) > 0 by omega), pvB, Bool.true_and]
          simp only [List.length_nil, Int.natCast_zero] at hwp
          rw [hwp]
          exact hnext
        · have hpos : ((pre' ++ [q]).length : Int) > 0 := by simp only [List.length_append, List.length_cons, List.length_nil]; omega
          have hw1 : wrap64 (((pre' ++ [q]).length : Int) - 1) = ((pre' ++ [q]).length : Int) - 1 := wr_id (by omega) (by omega)
          have hrq : rd_L1 l (((pre' ++ [q]).length : Int) - 1) = q := by rw [e]; exact rdL2_prevK pre' q d r
          simp only [if_pos hpos, hw1, if_pos (show 0 ≤ ((pre' ++ [q]).length : Int) - 1 by omega), if_pos (show ((pre' ++ [q]).length : Int) - 1 < (l.length : Int) by omega), hrq, keBefore_val hq2 hd2, Option.bind_some, pvB]
          cases hbf : bef q d with
          | false => simp only [Bool.false_eq_true, if_false, Bool.false_and]; exact Ev.now _
          | true => simp only [if_true, Bool.true_and, hwp]; exact hnext
    by_cases h2 : d.length = 2
    · simp only [if_pos (show (d.length : Int) = 2 by omega)]
      refine Ev.bind (l1Rising_ev d 0 (n - 1) (by omega)) ?_
      have := hj (d.all (inB 0 (n - 1)) && risP d) (fun _ => h2)
      unfold dOk
      rw [decide_eq_true h2, Bool.true_and]
      exact this
    · simp only [if_neg (show ¬ (d.length : Int) = 2 by omega)]
      have := hj false (fun h => by cases h)
      unfold dOk
      rw [decide_eq_false h2, Bool.false_and]
      exact this
theorem keGood_ev (n m : Int) (l : List (List Int)) (hl : l.length ≤ 1048576) (hlen : ∀ d ∈ l, d.length ≤ 1048576) : Ev (fun k => spec_keGood.f k n l m) (goodK n l m) := by
  unfold spec_keGood.f goodK
  rw [l1In_eq, l1In_eq]
  simp only [Option.bind_some]
  cases h1 : inB 0 8 n with
  | false =>
    simp only [Bool.false_eq_true, if_false, Bool.false_and]
    refine Ev.step (fun k => spec_keGood.j0.eq_2 ..) ?_
    simp only [if_true]
    exact Ev.now _
  | true =>
    simp only [if_true, Bool.true_and]
    refine Ev.step (fun k => spec_keGood.j0.eq_2 ..) ?_
    cases h2 : inB 0 8 m with
    | false => simp only [Bool.not_false, if_true, Bool.false_and]; exact Ev.now _
    | true =>
      simp only [Bool.not_true, Bool.false_eq_true, if_false, Bool.true_and]
      simp only [inB, Bool.and_eq_true, decide_eq_true_eq] at h1
      exact keGood_loop n m l h1 hl hlen l [] none rfl (.inl ⟨rfl, rfl⟩)
theorem isKeep_loop (n m : Int) (l : List (List Int)) (hn : 0 ≤ n ∧ n ≤ 8) (hl : l.length ≤ 1048576) : ∀ (r pre : List (List Int)) (p : Option (List Int)), l = pre ++ r → PrevK p pre → Ev (fun k => impl_IsKeep.l0 k l (l.length : Int) (pre.length : Int) n l m) (ksB n p r) := by
  have hw : wrap64 (n - 1) = n - 1 := wr_id (by omega) (by omega)
  intro r
  induction r with
  | nil =>
    intro pre p e hp
    rw [List.append_nil] at e
    subst e
    refine Ev.step (fun k => impl_IsKeep.l0.eq_2 ..) ?_
    simp only [if_neg (show ¬ (l.length : Int) < (l.length : Int) by omega), ksB]
    exact Ev.now _
  | cons d r ih =>
    intro pre p e hp
    have hrd : rd_L1 l (pre.length : Int) = d := by rw [e]; exact rdL2_midK pre d r
    have hpl : (pre.length : Int) < (l.length : Int) := by rw [e]; simp; omega
    have hwp : wrap64 ((pre.length : Int) + 1) = ((pre ++ [d]).length : Int) := by rw [wr_id (by omega) (by omega)]; simp
    refine Ev.step (fun k => impl_IsKeep.l0.eq_2 ..) ?_
    simp only [if_pos hpl, if_pos (show 0 ≤ (pre.length : Int) by omega), hrd, hw, ksB, areIn_eq, Option.bind_some]
    unfold dOk
    by_cases h2 : d.length = 2
    · have hb2 : inB 2 2 (d.length : Int) = true := by rw [h2]; rfl
      rw [hb2, decide_eq_true h2]
      simp only [Bool.true_and]
      cases ha : d.all (inB 0 (n - 1)) with
      | false => simp only [Bool.false_eq_true, if_false, Bool.false_and]; exact Ev.now _
      | true =>
        obtain ⟨a, b, rfl⟩ := len2 h2
        have hris : risP [a, b] = decide (a < b) := by simp [risP, risF]
        have r0 : rd [a, b] 0 = a := rfl
        have r1 : rd [a, b] 1 = b := rfl
        simp only [if_true, Bool.true_and, hris, r0, r1, if_pos (show (0 : Int) < (([a, b] : List Int).length : Int) by simp), if_pos (show (1 : Int) < (([a, b] : List Int).length : Int) by simp)]
        by_cases hab : a < b
        · have hnext := ih (pre ++ [[a, b]]) (some [a, b]) (by rw [e]; simp) (.inr ⟨pre, [a, b], rfl, rfl, rfl⟩)
          simp only [if_neg (show ¬ a ≥ b by omega), decide_eq_true hab, Bool.true_and]
          rcases hp with ⟨rfl, rfl⟩ | ⟨pre', q, rfl, rfl, hq2⟩
          · simp only [List.length_nil, Int.natCast_zero, if_neg (show ¬ (0 : Int) > 0 by omega), pvB, Bool.true_and]
            simp only [List.length_nil, Int.natCast_zero] at hwp
            rw [hwp]
            exact hnext
          · have hpos : ((pre' ++ [q]).length : Int) > 0 := by simp only [List.length_append, List.length_cons, List.length_nil]; omega
            have hw1 : wrap64 (((pre' ++ [q]).length : Int) - 1) = ((pre' ++ [q]).length : Int) - 1 := wr_id (by omega) (by omega)
            have hrq : rd_L1 l (((pre' ++ [q]).length : Int) - 1) = q := by rw [e]; exact rdL2_prevK pre' q [a, b] r
            obtain ⟨x, y, rfl⟩ := len2 hq2
            obtain ⟨c, hc, hcb⟩ := compare2_ev x y a b
            simp only [if_pos hpos, hw1, if_pos (show 0 ≤ ((pre' ++ [[x, y]]).length : Int) - 1 by omega), if_pos (show ((pre' ++ [[x, y]]).length : Int) - 1 < (l.length : Int) by omega), hrq, pvB]
            refine Ev.bind hc ?_
            cases hbf : bef [x, y] [a, b] with
            | false => simp only [if_pos (hcb.2 hbf), Bool.false_and]; exact Ev.now _
            | true =>
              have : ¬ c ≥ 0 := fun h => by rw [hcb.1 h] at hbf; cases hbf
              simp only [if_neg this, Bool.true_and, hwp]; exact hnext
        · simp only [if_pos (show a ≥ b by omega), decide_eq_false hab, Bool.false_and]; exact Ev.now _
    · have hb2 : inB 2 2 (d.length : Int) = false := by
        unfold inB
        by_cases q : 2 ≤ (d.length : Int)
        · rw [decide_eq_false (show ¬ (d.length : Int) ≤ 2 by omega), Bool.and_false]
        · rw [decide_eq_false q, Bool.false_and]
      rw [hb2, decide_eq_false h2]
      simp only [Bool.false_and, Bool.false_eq_true, if_false]
      exact Ev.now _
theorem isKeep_ev (n m : Int) (l : List (List Int)) (hl : l.length ≤ 1048576) : Ev (fun k => impl_IsKeep.f k n l m) (goodK n l m) := by
  unfold impl_IsKeep.f goodK
  rw [in_eq, in_eq]
  simp only [Option.bind_some]
  cases h1 : inB 0 8 n with
  | false =>
    simp only [Bool.false_eq_true, if_false, Bool.false_and]
    refine Ev.step (fun k => impl_IsKeep.j0.eq_2 ..) ?_
    simp only [if_true]
    exact Ev.now _
  | true =>
    simp only [if_true, Bool.true_and]
    refine Ev.step (fun k => impl_IsKeep.j0.eq_2 ..) ?_
    cases h2 : inB 0 8 m with
    | false => simp only [Bool.not_false, if_true, Bool.false_and]; exact Ev.now _
    | true =>
      simp only [Bool.not_true, Bool.false_eq_true, if_false, Bool.true_and]
      simp only [inB, Bool.and_eq_true, decide_eq_true_eq] at h1
      exact isKeep_loop n m l h1 hl l [] none rfl (.inl ⟨rfl, rfl⟩)
end Go.Proofs.Ytcjjhkapdlfaeaa.Pure

namespace Go.Proofs.Ytcjjhkapdlfaeaa.Pure
open Go.Proofs.Ytcjjhkapdlfaeaa.Walk Go.RowKit Go.Proofs.Ytcjjhkapdlfaeaa.C1 Go.Proofs.Ytcjjhkapdlfaeaa.H Go.Proofs.YtcjjhkapdlfaeaaW.PrintWords Go.Proofs.YtcjjhkapdlfaeaaW.PrintLast Go.Proofs.YtcjjhkapdlfaeaaW.PrintMore
set_option linter.unusedVariables false
set_option linter.unusedSimpArgs false
theorem goodK_allW {n m : Int} {l : List (List Int)} (h : goodK n l m = true) : ∃ nn : Nat, n = (nn : Int) ∧ nn ≤ 8 ∧ 0 ≤ m ∧ m ≤ 8 ∧ ∀ d ∈ l, dOk (nn : Int) d = true := by
  unfold goodK at h
  simp only [Bool.and_eq_true, inB, decide_eq_true_eq] at h
  obtain ⟨⟨h0, h1⟩, ⟨h2, h3⟩, h4⟩ := h
  obtain ⟨nn, rfl⟩ : ∃ nn : Nat, n = (nn : Int) := ⟨n.toNat, by omega⟩
  exact ⟨nn, rfl, by omega, h2, h3, ksB_all l none h4⟩
def covB (l : List (List Int)) (x : List Int) : Bool := l.all fun d => decide (rd d 0 ∈ x) || decide (rd d 1 ∈ x)
theorem contB_eq (x : List Int) (a : Int) : contB x a = decide (a ∈ x) := by
  unfold contB
  by_cases h : a ∈ x
  · rw [decide_eq_true h, List.any_eq_true]; exact ⟨a, h, by simp⟩
  · rw [decide_eq_false h, List.any_eq_false]
    intro y hy e
    exact h ((beq_iff_eq.1 e) ▸ hy)
theorem coversB_eq (l : List (List Int)) (x : List Int) : coversB l x = covB l x := by
  unfold coversB covB
  simp only [contB_eq]
  induction l with
  | nil => rfl
  | cons d l ih =>
    rw [List.any_cons, List.all_cons, ← ih]
    cases decide (rd d 0 ∈ x) <;> cases decide (rd d 1 ∈ x) <;> simp
theorem lwFit_ev (x : List Int) (hx : x.length ≤ 1048576) : ∀ (l : List (List Int)) (b : Bool), (∀ d ∈ l, 2 ≤ d.length) → Ev (fun k => lwFit k x l b) (b && covB l x)
  | [], b, _ => by simp only [lwFit, covB, List.all_nil, Bool.and_true]; exact Ev.now _
  | d :: l, b, h => by
    have h2 := h d (by simp)
    have ih := fun b => lwFit_ev x hx l b (fun y hy => h y (by simp [hy]))
    simp only [lwFit, if_pos h2]
    cases b with
    | false => simp only [Bool.false_eq_true, if_false]; exact ev_eq (ih false) (by simp)
    | true =>
      simp only [if_true]
      refine Ev.bind (l1Has_ev (rd d 0) x hx) ?_
      by_cases h0 : rd d 0 ∈ x
      · simp only [decide_eq_true h0, if_true]; exact ev_eq (ih true) (by simp [covB, h0])
      · simp only [decide_eq_false h0, Bool.false_eq_true, if_false]
        refine Ev.bind (l1Has_ev (rd d 1) x hx) ?_
        by_cases h1 : rd d 1 ∈ x
        · simp only [decide_eq_true h1]; exact ev_eq (ih true) (by simp [covB, h1])
        · simp only [decide_eq_false h1]; exact ev_eq (ih false) (by simp [covB, h0, h1])
def stS (l : List (List Int)) (best x : List Int) : List Int := if best.length ≤ x.length then best else if covB l x = true then x else best
theorem lwS_ev (l : List (List Int)) (h2 : ∀ d ∈ l, 2 ≤ d.length) : ∀ (xs : List (List Int)) (best : List Int), (∀ x ∈ xs, x.length ≤ 1048576) → Ev (fun k => xs.foldlM (lwS k l) best) (xs.foldl (stS l) best)
  | [], best, _ => Ev.now _
  | x :: xs, best, h => by
    have ih := fun b => lwS_ev l h2 xs b (fun y hy => h y (by simp [hy]))
    simp only [List.foldlM_cons, List.foldl_cons]
    refine Ev.bind (a := stS l best x) ?_ (ih _)
    unfold lwS stS
    by_cases c : best.length ≤ x.length
    · simp only [if_pos c]; exact Ev.now _
    · simp only [if_neg c]
      refine Ev.bind (lwFit_ev x (h x (by simp)) l true h2) ?_
      simp only [Bool.true_and]
      exact Ev.now _
theorem stS_says (l : List (List Int)) : ∀ (xs : List (List Int)) (b r : List Int), xs.foldl (stS l) b = r → (r = b ∧ ∀ x ∈ xs, covB l x = true → b.length ≤ x.length) ∨ (∃ pre post, xs = pre ++ r :: post ∧ covB l r = true ∧ r.length < b.length ∧ (∀ x ∈ pre, covB l x = true → r.length < x.length) ∧ ∀ x ∈ post, covB l x = true → r.length ≤ x.length)
  | [], b, r, h => .inl ⟨h.symm, fun x hx => by simp at hx⟩
  | x :: xs, b, r, h => by
    rw [List.foldl_cons] at h
    have ih := stS_says l xs _ r h
    have stay : stS l b x = b → (covB l x = true → b.length ≤ x.length) → (r = b ∧ ∀ y ∈ x :: xs, covB l y = true → b.length ≤ y.length) ∨ (∃ pre post, x :: xs = pre ++ r :: post ∧ covB l r = true ∧ r.length < b.length ∧ (∀ y ∈ pre, covB l y = true → r.length < y.length) ∧ ∀ y ∈ post, covB l y = true → r.length ≤ y.length) := fun e hx => by
      rw [e] at ih
      rcases ih with ⟨h1, h2⟩ | ⟨pre, post, h1, h2, h3, h4, h5⟩
      · refine .inl ⟨h1, fun y hy hc => ?_⟩
        rcases List.mem_cons.1 hy with rfl | hy
        · exact hx hc
        · exact h2 y hy hc
      · refine .inr ⟨x :: pre, post, by rw [h1]; rfl, h2, h3, fun y hy hc => ?_, h5⟩
        rcases List.mem_cons.1 hy with rfl | hy
        · have := hx hc; omega
        · exact h4 y hy hc
    by_cases c : b.length ≤ x.length
    · exact stay (if_pos c) (fun _ => c)
    · by_cases hc : covB l x = true
      · have e : stS l b x = x := by unfold stS; rw [if_neg c, if_pos hc]
        rw [e] at ih
        rcases ih with ⟨rfl, h2⟩ | ⟨pre, post, h1, h2, h3, h4, h5⟩
        · exact .inr ⟨[], xs, rfl, hc, by omega, fun y hy => by simp at hy, h2⟩
        · refine .inr ⟨x :: pre, post, by rw [h1]; rfl, h2, by omega, fun y hy hy2 => ?_, h5⟩
          rcases List.mem_cons.1 hy with rfl | hy
          · exact h3
          · exact h4 y hy hy2
      · exact stay (by unfold stS; rw [if_neg c, if_neg hc]) (fun h => absurd h hc)
theorem lwStep_fold (n : Nat) (l : List (List Int)) : ∀ (xs : List (List Int)) (b : List Int), xs.foldlM (lwStep n l) (b, false) = some (match xs.find? (fun x => x.length == n && covB l x) with | some x => (x, true) | none => (b, false))
  | [], b => rfl
  | x :: xs, b => by
    have stay : ∀ (ys : List (List Int)) (y : List Int), ys.foldlM (lwStep n l) (y, true) = some (y, true) := fun ys y => by
      induction ys with
      | nil => rfl
      | cons z ys ih => rw [List.foldlM_cons]; simp only [lwStep, Bool.true_eq_false, false_and, if_false]; exact ih
    rw [List.foldlM_cons, List.find?_cons]
    by_cases c : x.length = n ∧ covB l x = true
    · have e : lwStep n l (b, false) x = some (x, true) := by unfold lwStep; rw [if_pos ⟨rfl, c.1, by rw [coversB_eq]; exact c.2⟩]
      have e2 : (x.length == n && covB l x) = true := by simp [c.1, c.2]
      rw [e, e2]
      exact stay xs x
    · have e : lwStep n l (b, false) x = some (b, false) := by unfold lwStep; rw [if_neg (fun h => c ⟨h.2.1, by rw [← coversB_eq]; exact h.2.2⟩)]
      have e2 : (x.length == n && covB l x) = false := by
        cases q : (x.length == n && covB l x) with
        | false => rfl
        | true => exact absurd (by simpa using q) c
      rw [e, e2]
      exact lwStep_fold n l xs b
theorem grpsF_filt (n : Nat) (m : Int) (hm : (n : Int) ≤ m) : ∀ ps l : List Int, (grpsF m ps l).filter (fun x => x.length == n) = (grpsF (n : Int) ps l).filter (fun x => x.length == n)
  | [], _ => rfl
  | x :: r, l => by
    by_cases c : (l.length : Int) < (n : Int)
    · rw [grpsF, grpsF, if_pos c, if_pos (by omega), List.filter_cons, List.filter_cons, List.filter_append, List.filter_append, grpsF_filt n m hm r (l ++ [x]), grpsF_filt n m hm r l]
    · have e : grpsF (n : Int) (x :: r) l = [] := by rw [grpsF, if_neg c]
      rw [e, List.filter_nil, List.filter_eq_nil_iff]
      intro g hg q
      obtain ⟨t, ht, _, rfl, _⟩ := (grpsF_mem m (x :: r) l g).1 hg
      have h1 : (l ++ t).length = n := by simpa using q
      have h2 : 0 < t.length := List.length_pos_iff.2 ht
      rw [List.length_append] at h1
      omega
theorem find_grps (n : Nat) (m : Int) (hm : (n : Int) ≤ m) (l : List (List Int)) (ps : List Int) : (grpsF (n : Int) ps []).find? (fun x => x.length == n && covB l x) = (grpsF m ps []).find? (fun x => x.length == n && covB l x) := by
  have h : ∀ xs : List (List Int), xs.find? (fun x => x.length == n && covB l x) = (xs.filter (fun x => x.length == n)).find? (covB l) := fun xs => by
    rw [List.find?_filter]
    congr 1
    funext a
    cases a.length == n <;> cases covB l a <;> rfl
  rw [h, h, grpsF_filt n m hm]
theorem sideP_iota (n : Nat) : ∀ i : Nat, sideP false (List.replicate n false) i = (List.range' i n).map fun (j : Nat) => (j : Int) := by
  induction n with
  | zero => intro i; rfl
  | succ n ih =>
    intro i
    rw [List.replicate_succ, sideP, List.range'_succ, List.map_cons, ← ih (i + 1)]
    rfl
theorem FnExactLeastWatched_both (n : Int) (l : List (List Int)) (m : Int) (hl : n2 l ≤ 1048576) : ∃ rr : List Int × Bool, Ev (fun k => spec_LeastWatched.f k n l m) rr ∧ Ev (fun k => impl_LeastWatched.f k n l m) rr ∧ rr.1.length ≤ 1048576 := by
  have hll : l.length ≤ 1048576 := by unfold n2 at hl; omega
  have hlen := (szSum_bound List.length l hl).2
  unfold spec_LeastWatched.f impl_LeastWatched.f
  cases hg : goodK n l m with
  | false =>
    refine ⟨([], false), Ev.bind (keGood_ev n m l hll hlen) ?_, Ev.bind (isKeep_ev n m l hll) ?_, by simp⟩
    · rw [hg]; simp only [Bool.false_eq_true, if_false]; exact Ev.now _
    · rw [hg]; simp only [Bool.false_eq_true, if_false]; exact Ev.now _
  | true =>
    obtain ⟨N, rfl, hN, hm0, hm1, hd⟩ := goodK_allW hg
    have h2 : ∀ d ∈ l, 2 ≤ d.length := fun d h => by obtain ⟨a, b, rfl, _⟩ := dOk_two (hd d h); simp
    have hil : (iotaI N).length = N := iotaI_len N
    have him : ∀ a : Int, 0 ≤ a → a < (N : Int) → a ∈ iotaI N := fun a h0 h1 => by
      unfold iotaI
      rw [List.mem_map]
      exact ⟨a.toNat, by simp; omega, by omega⟩
    have hci : covB l (iotaI N) = true := by
      unfold covB
      rw [List.all_eq_true]
      intro d h
      obtain ⟨a, b, rfl, h0, h1, h2⟩ := dOk_two (hd d h)
      rw [Bool.or_eq_true]
      exact .inl (decide_eq_true (him a h0 (by omega)))
    obtain ⟨G, hG⟩ : ∃ G, G = grpsF (N : Int) (iotaI N) [] := ⟨_, rfl⟩
    have hGm : ∀ g, g ∈ G ↔ g ≠ [] ∧ g.Sublist (iotaI N) := fun g => by
      rw [hG, grpsF_mem]
      constructor
      · rintro ⟨t, h1, h2, rfl, _⟩
        exact ⟨h1, h2⟩
      · rintro ⟨h1, h2⟩
        exact ⟨g, h1, h2, rfl, by have := h2.length_le; rw [hil] at this; simp; omega⟩
    have hGl : ∀ g ∈ G, g.length ≤ N := fun g h => by have := ((hGm g).1 h).2.length_le; rwa [hil] at this
    have hGn : G.length < 1000000000 := by
      have h1 := grpsF_len (N : Int) (iotaI N) []
      have h3 : 2 ^ (iotaI N).length ≤ 2 ^ 8 := Nat.pow_le_pow_right (by omega) (by omega)
      rw [hG]
      omega
    have hG0 : N = 0 → G = [] := fun e => by
      subst e
      rw [hG]
      rfl
    obtain ⟨r, hr⟩ : ∃ r, r = ([] :: G).foldl (stS l) (iotaI N) := ⟨_, rfl⟩
    have hspec : Ev (fun k => ((if 0 < (N : Int) then spec_paGroups.f k (iotaI (N : Int).toNat) [] 0 (N : Int) else some []).bind fun gs => if gs.length < 1000000000 then (([] :: gs).foldlM (lwS k l) (iotaI (N : Int).toNat)).bind fun b => some (b, true) else none)) (r, true) := by
      rw [Int.toNat_natCast]
      refine Ev.bind (a := G) ?_ ?_
      · by_cases c : 0 < N
        · simp only [if_pos (show 0 < (N : Int) by omega)]
          have h := paGroups_ev (N : Int) (iotaI N) (by omega) (iotaI N).length 0 [] (by omega) (by omega) (by simp; omega) (by simp)
          rw [hG]
          exact h
        · simp only [if_neg (show ¬ 0 < (N : Int) by omega)]
          rw [hG0 (by omega)]
          exact Ev.now _
      · simp only [if_pos hGn]
        refine Ev.bind (a := r) ?_ (Ev.now _)
        rw [hr]
        refine lwS_ev l h2 _ _ (fun x hx => ?_)
        rcases List.mem_cons.1 hx with rfl | hx
        · simp
        · have := hGl x hx; omega
    have hA : covB l r = true ∧ (∀ x ∈ ([] :: G), covB l x = true → r.length ≤ x.length) ∧ ([] :: G).find? (fun x => x.length == r.length && covB l x) = some r ∧ r.length ≤ N := by
      rcases stS_says l ([] :: G) (iotaI N) r hr.symm with ⟨rfl, h1⟩ | ⟨pre, post, h1, h3, h4, h5, h6⟩
      · refine ⟨hci, h1, ?_, by omega⟩
        have hin : iotaI N ∈ ([] :: G) := by
          by_cases c : N = 0
          · subst c; exact List.mem_cons_self
          · exact List.mem_cons_of_mem _ ((hGm _).2 ⟨fun e => by rw [e] at hil; simp at hil; omega, List.Sublist.refl _⟩)
        cases q : ([] :: G).find? (fun x => x.length == (iotaI N).length && covB l x) with
        | none =>
          have := List.find?_eq_none.1 q _ hin
          simp [hci] at this
        | some x =>
          have h7 := List.find?_some q
          have h8 := List.mem_of_find?_eq_some q
          simp only [Bool.and_eq_true, beq_iff_eq] at h7
          have hs : x.Sublist (iotaI N) := by
            rcases List.mem_cons.1 h8 with rfl | h8
            · exact List.nil_sublist _
            · exact ((hGm x).1 h8).2
          rw [hs.eq_of_length h7.1]
      · refine ⟨h3, fun x hx hc => ?_, ?_, by omega⟩
        · rw [h1] at hx
          rcases List.mem_append.1 hx with hx | hx
          · have := h5 x hx hc; omega
          · rcases List.mem_cons.1 hx with rfl | hx
            · exact Nat.le_refl _
            · exact h6 x hx hc
        · rw [h1, List.find?_append]
          have hn : pre.find? (fun x => x.length == r.length && covB l x) = none := by
            rw [List.find?_eq_none]
            intro x hx q
            simp only [Bool.and_eq_true, beq_iff_eq] at q
            have := h5 x hx q.2
            omega
          rw [hn, List.find?_cons]
          simp [h3]
    obtain ⟨hcr, hmin, hfind, hrl⟩ := hA
    have hst : ∀ t : Nat, 1 ≤ t → t ≤ N → (grpsF (t : Int) (iotaI N) []).find? (fun x => x.length == t && covB l x) = ([] :: G).find? (fun x => x.length == t && covB l x) := fun t h1 h3 => by
      rw [find_grps t (N : Int) (by omega), ← hG, List.find?_cons]
      have : (([] : List Int).length == t && covB l []) = false := by
        rw [show (([] : List Int).length == t) = false by simp; omega]; rfl
      rw [this]
    have hloop : ∀ dd t : Nat, t + dd = r.length → 1 ≤ t → Ev (fun k => lwLoop l (iotaI N) k t ([], false)) r := by
      intro dd
      induction dd with
      | zero =>
        intro t ht h1
        obtain rfl : t = r.length := by omega
        refine Ev.step (f := fun k => lwLoop l (iotaI N) k (r.length + 1) (r, true)) (fun k => ?_) (Ev.step (f := fun _ => some r) (fun k => ?_) (Ev.now _))
        · rw [lwLoop, if_neg (by simp), if_pos (by omega), lwStep_fold, hst _ h1 hrl, hfind]
          rfl
        · rw [lwLoop, if_pos rfl]
      | succ dd ih =>
        intro t ht h1
        refine Ev.step (f := fun k => lwLoop l (iotaI N) k (t + 1) ([], false)) (fun k => ?_) (ih (t + 1) (by omega) (by omega))
        have hn : ([] :: G).find? (fun x => x.length == t && covB l x) = none := by
          rw [List.find?_eq_none]
          intro x hx q
          simp only [Bool.and_eq_true, beq_iff_eq] at q
          have := hmin x hx q.2
          omega
        rw [lwLoop, if_neg (by simp), if_pos (by omega), lwStep_fold, hst _ h1 (by omega), hn]
        rfl
    have himp : Ev (fun k => lwLoop l (iotaI N) k 1 ([], coversB l [])) r := by
      rw [coversB_eq]
      cases c : covB l [] with
      | true =>
        have h0 := hmin [] List.mem_cons_self c
        obtain rfl : r = [] := List.eq_nil_of_length_eq_zero (by simpa using h0)
        refine Ev.step (f := fun _ => some []) (fun k => ?_) (Ev.now _)
        rw [lwLoop, if_pos rfl]
      | false =>
        have h0 : r ≠ [] := fun e => by rw [e, c] at hcr; cases hcr
        have h1 := List.length_pos_iff.2 h0
        exact hloop (r.length - 1) 1 (by omega) (Nat.le_refl _)
    refine ⟨(r, true), Ev.bind (keGood_ev _ m l hll hlen) ?_, Ev.bind (isKeep_ev _ m l hll) ?_, by simp only; omega⟩
    · rw [hg]
      simp only [if_true, if_pos (show 0 ≤ (N : Int) ∧ (N : Int) ≤ 1000000 by omega)]
      exact hspec
    · rw [hg]
      have hall : l.all (fun d => decide (2 ≤ d.length)) = true := List.all_eq_true.2 (fun d h => decide_eq_true (h2 d h))
      have ha : impl_allAt.f (N : Int) false = some (List.replicate N false, false) := by
        unfold impl_allAt.f slices_Repeat_bool_bool.f
        rw [if_pos ⟨zle _, by omega, rfl⟩]
        simp [rdOf]
      simp only [if_true, if_pos hall, ha, Option.bind_some]
      refine Ev.bind (side_ev (List.replicate N false) false false (by simp; omega)) ?_
      have e : sideP false (List.replicate N false) 0 = iotaI N := by rw [sideP_iota]; unfold iotaI; rw [List.range_eq_range']
      rw [e]
      simp only [if_pos (show (iotaI N).length ≤ 20 by omega)]
      exact Ev.bind himp (Ev.now _)
theorem FnExactLeastWatched_all (a0_0 : Int) (A0_1 : Option Addr) (c0_1 : Nat) (l0_1 : List (List Int)) (a0_2 : Int) (w : World) (hr0_1 : Kd.C (Kd.slice 3 (Kd.int .i64)) w A0_1 l0_1.length l0_1) (hc0_1 : l0_1.length ≤ c0_1) (g0_0 : goodI a0_0) (g0_1 : goodL (goodL goodI) l0_1) (g0_2 : goodI a0_2) :
    Calls Try.prog 3 #[.agg #[.int .i64 a0_0, .slice A0_1 l0_1.length c0_1, .int .i64 a0_2]] w fun e w' => e = .returned (.bool true) ∧ Below w.heap.size w w' := by
  obtain ⟨u0, hu0, hc⟩ := szKeep_cases a0_0 l0_1 a0_2 1048576 (by omega) (by omega) (good2 g0_1)
  rcases hc with hc | ⟨b0, d0⟩
  · obtain ⟨Kx, fx⟩ := hu0
    exact FnExactLeastWatched_short0 _ _ _ _ _ w hr0_1 hc0_1  _ _ (fx _ (Nat.le_refl _)) hc
  have nu0 : ¬ u0 < 0 := by omega
  have z0_1 : n2 l0_1 ≤ 1048576 := by omega
  have et0 := toKeep_ev a0_0 l0_1 a0_2 z0_1
  obtain ⟨rr, es, ei, hsm⟩ := FnExactLeastWatched_both a0_0 l0_1 a0_2 z0_1
  obtain ⟨r0, r1⟩ := rr
  dsimp only at hsm
  have s0 := hsm
  have eq0 : Ev (fun k => laws_eqIntS.f k r0 r0) true := ev_eq (eqIntS_ev r0 r0 s0) (decide_eq_true rfl)
  have ea0 : Ev (fun k => laws_eqKeep.f k a0_0 l0_1 a0_2 a0_0 l0_1 a0_2) true := ev_eq (eqKeep_ev a0_0 l0_1 a0_2 a0_0 l0_1 a0_2 z0_1) (decide_eq_true rfl)
  have ema0 := ev_some (markKeep_ev a0_0 l0_1 a0_2 (1) z0_1)
  have bma0_1 := mkSS_bound l0_1 (1) (by omega) (by omega)
  have na0_1 : ¬ (mkSS l0_1 (1)).1 < 0 := by omega
  have emr0 := markIntS_ev r0 (1) s0
  have bmr0 := mkS_bound r0 (1) (by omega) (by omega)
  have nr0 : ¬ (mkS r0 (1)).1 < 0 := by omega
  have eh0 := heldIntS_ev r0 (1) (by omega) (by omega) s0
  clear bma0_1 bmr0
  obtain ⟨Khu0, fhu0⟩ := hu0
  obtain ⟨Ket0, fet0⟩ := et0
  obtain ⟨Kes, fes⟩ := es
  obtain ⟨Kei, fei⟩ := ei
  obtain ⟨Keq0, feq0⟩ := eq0
  obtain ⟨Kea0, fea0⟩ := ea0
  obtain ⟨Kema0, fema0⟩ := ema0
  obtain ⟨Kemr0, femr0⟩ := emr0
  obtain ⟨Keh0, feh0⟩ := eh0
  exact FnExactLeastWatched_walk _ _ _ _ _ _ _ _ _ _ _ _ Khu0 Ket0 Kes Kei Keq0 Kea0 Kemr0 Keh0 w hr0_1 hc0_1  (fhu0 _ (Nat.le_refl _)) nu0 (fet0 _ (Nat.le_refl _)) (fes _ (Nat.le_refl _)) (fei _ (Nat.le_refl _)) (feq0 _ (Nat.le_refl _)) (fea0 _ (Nat.le_refl _)) (fema0 _ (Nat.le_refl _)) na0_1 (femr0 _ (Nat.le_refl _)) (feh0 _ (Nat.le_refl _)) nr0
end Go.Proofs.Ytcjjhkapdlfaeaa.Pure
