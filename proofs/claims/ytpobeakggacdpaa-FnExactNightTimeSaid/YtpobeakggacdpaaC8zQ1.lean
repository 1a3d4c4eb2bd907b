import Derived.Test.YtpobeakggacdpaaC8zx0
import Derived.Test.YtpobeakggacdpaaC8zx1
import Derived.Test.YtpobeakggacdpaaC8zx2
import Derived.Test.YtpobeakggacdpaaC8zH0
import Derived.Test.YtpobeakggacdpaaC8zH1
import Derived.Test.YtpobeakggacdpaaC8zQ0
namespace Go.Proofs.Ytpobeakggacdpaa.Pure
open Go.RowKit Go.Proofs.Ytpobeakggacdpaa.C8 Go.Proofs.Ytpobeakggacdpaa.H Go.Proofs.YtpobeakggacdpaaW.PrintWords Go.Proofs.YtpobeakggacdpaaW.PrintLast Go.Proofs.YtpobeakggacdpaaW.PrintMore
set_option linter.unusedVariables false
set_option linter.unusedSimpArgs false
def goodIntS (l : List Int) : Prop := l.length ≤ 9223372036854775807
theorem szIntS_cases (l : List Int) (a : Int) (h0 : 0 ≤ a) (ha : a ≤ 1048576) (hg : goodIntS l) : ∃ t, laws_szIntS.f l a = some t ∧ (t < 0 ∨ (0 ≤ t ∧ t + (l.length : Int) ≤ a)) := by
  have hl : l.length ≤ 9223372036854775807 := hg
  unfold laws_szIntS.f
  rw [wr_id (by omega) (by omega)]
  by_cases h : a - (l.length : Int) < 0
  · exact ⟨-1, by rw [if_pos h], .inl (by omega)⟩
  · exact ⟨_, by rw [if_neg h], .inr ⟨by omega, by omega⟩⟩
theorem toIntS_loop (x0 : List Int) : ∀ (r pre suf : List Int), x0 = pre ++ r → suf.length = r.length → x0.length ≤ 9223372036854775807 → Ev (fun k => laws_toIntS.l0 k x0 (pre ++ suf) (pre.length : Int)) x0 := by
  intro r
  induction r with
  | nil =>
    intro pre suf e hs hl
    obtain rfl : suf = [] := List.eq_nil_of_length_eq_zero hs
    subst e
    refine Ev.step (f := fun _ => some _) (fun k => ?_) (Ev.now _)
    simp only [laws_toIntS.l0]
    rw [if_neg (nlt_end pre)]
  | cons x r ih =>
    intro pre suf e hs hl
    match suf, hs with
    | y :: suf, hs =>
      subst e
      refine Ev.step (fun k => ?_) (ev_eq (ih (pre ++ [x]) suf (by simp) (by simpa using hs) hl) rfl)
      simp only [laws_toIntS.l0]
      rw [if_pos (lt_mid pre x r), if_pos (zle _), if_pos (lt_mid pre y suf), rd_mid, set_mid, wr_mid pre x r hl, app_mid pre x suf]
theorem toIntS_ev (l : List Int) (hl : l.length ≤ 1048576) : Ev (fun k => laws_toIntS.f k l) l := by
  unfold laws_toIntS.f
  simp only [if_pos (zle l.length), if_pos (show ((l.length : Int)).toNat ≤ 35184372088832 by omega)]
  exact toIntS_loop l l [] _ rfl (by simp) (by omega)
theorem eqIntS_loop : ∀ (r s pre qre : List Int), pre.length = qre.length → r.length = s.length → (pre ++ r).length ≤ 9223372036854775807 → Ev (fun k => laws_eqIntS.l0 k (pre ++ r) (qre ++ s) (pre.length : Int)) (decide (r = s)) := by
  intro r
  induction r with
  | nil =>
    intro s pre qre hp hs hl
    obtain rfl : s = [] := List.eq_nil_of_length_eq_zero hs.symm
    refine Ev.step (f := fun _ => some _) (fun k => ?_) (Ev.now _)
    simp only [laws_eqIntS.l0]
    rw [if_neg (nlt_end pre)]
    rfl
  | cons x r ih =>
    intro s pre qre hp hs hl
    match s, hs with
    | y :: s, hs =>
      by_cases e : x = y
      · subst e
        refine Ev.step (fun k => ?_) (ev_eq (ih s (pre ++ [x]) (qre ++ [x]) (by simp [hp]) (by simpa using hs) (by simpa using hl)) (by simp))
        simp only [laws_eqIntS.l0]
        rw [if_pos (lt_mid pre x r), if_pos (zle _), if_pos (by rw [hp]; exact lt_mid qre x s), rd_mid, hp, rd_mid, if_pos rfl, ← hp, wr_mid pre x r hl, app_mid pre x r, app_mid qre x s]
      · refine Ev.step (f := fun _ => some _) (fun k => ?_) (Ev.now _)
        simp only [laws_eqIntS.l0]
        rw [if_pos (lt_mid pre x r), if_pos (zle _), if_pos (by rw [hp]; exact lt_mid qre y s), rd_mid, hp, rd_mid, if_neg e]
        simp [e]
theorem eqIntS_ev (l s : List Int) (hl : l.length ≤ 1048576) : Ev (fun k => laws_eqIntS.f k l s) (decide (l = s)) := by
  unfold laws_eqIntS.f
  by_cases h : l.length = s.length
  · simp only [if_pos (show (l.length : Int) = (s.length : Int) by omega)]
    exact eqIntS_loop l s [] [] rfl h (by simp; omega)
  · simp only [if_neg (show ¬ (l.length : Int) = (s.length : Int) by omega)]
    refine ev_eq (Ev.now _) ?_
    have : l ≠ s := fun e => h (by rw [e])
    simp [this]
theorem rd_L2_mid (pre : List (List Int)) (x : List Int) (r : List (List Int)) : rd_L1 (pre ++ x :: r) (pre.length : Int) = x := by simp [rd_L1]
theorem szIntSS_loop : ∀ (r pre : List (List Int)) (a : Int), 0 ≤ a → a ≤ 1048576 → (pre ++ r).length ≤ 9223372036854775807 → (∀ x ∈ r, goodIntS x) → ∃ t, Ev (fun k => laws_szIntSS.l0 k (pre ++ r) a (pre.length : Int)) t ∧ (t < 0 ∨ (0 ≤ t ∧ t + (szSum List.length r : Int) ≤ a)) := by
  intro r
  induction r with
  | nil =>
    intro pre a h0 ha hl hg
    refine ⟨a, ?_, .inr ⟨h0, by simp [szSum]⟩⟩
    refine Ev.step (f := fun _ => some a) (fun k => ?_) (Ev.now _)
    simp only [laws_szIntSS.l0]
    rw [if_neg (nlt_end pre)]
  | cons x r ih =>
    intro pre a h0 ha hl hg
    obtain ⟨t, ht, hc⟩ := szIntS_cases x a h0 ha (hg x (by simp))
    have hE : Ev (fun k => laws_szIntS.f x a) t := ev_some ht
    rcases hc with hc | ⟨hc0, hc1⟩
    · refine ⟨-1, Ev.step (f := fun k => (laws_szIntS.f x a).bind fun t => if t < 0 then some (-1) else laws_szIntSS.l0 k (pre ++ x :: r) t (wrap64 ((pre.length : Int) + 1))) (fun k => ?_) (Ev.bind hE ?_), .inl (by omega)⟩
      · simp only [laws_szIntSS.l0]
        rw [if_pos (lt_mid pre x r), if_pos (zle _), rd_L2_mid]
      · simp only [if_pos hc]
        exact Ev.now _
    · obtain ⟨t2, ht2, h2⟩ := ih (pre ++ [x]) t hc0 (by omega) (by simpa using hl) (fun y hy => hg y (by simp [hy]))
      refine ⟨t2, Ev.step (f := fun k => (laws_szIntS.f x a).bind fun t => if t < 0 then some (-1) else laws_szIntSS.l0 k (pre ++ x :: r) t (wrap64 ((pre.length : Int) + 1))) (fun k => ?_) (Ev.bind hE ?_), ?_⟩
      · simp only [laws_szIntSS.l0]
        rw [if_pos (lt_mid pre x r), if_pos (zle _), rd_L2_mid]
      · simp only [if_neg (show ¬ t < 0 by omega)]
        rw [wr_mid pre x r hl, app_mid pre x r]
        exact ht2
      · rcases h2 with h2 | ⟨h2, h3⟩
        · exact .inl h2
        · exact .inr ⟨h2, by simp only [szSum]; omega⟩
def goodIntSS (l : List (List Int)) : Prop := l.length ≤ 9223372036854775807 ∧ ∀ x ∈ l, goodIntS x
theorem szIntSS_cases (l : List (List Int)) (a : Int) (h0 : 0 ≤ a) (ha : a ≤ 1048576) (hg : goodIntSS l) : ∃ t, Ev (fun k => laws_szIntSS.f k l a) t ∧ (t < 0 ∨ (0 ≤ t ∧ t + (n2 l : Int) ≤ a)) := by
  have hl := hg.1
  unfold laws_szIntSS.f
  rw [wr_id (by omega) (by omega)]
  by_cases h : a - (l.length : Int) < 0
  · exact ⟨-1, by simp only [if_pos h]; exact Ev.now _, .inl (by omega)⟩
  · obtain ⟨t, ht, hc⟩ := szIntSS_loop l [] (a - l.length) (by omega) (by omega) hl hg.2
    refine ⟨t, by simp only [if_neg h]; exact ht, ?_⟩
    rcases hc with hc | ⟨h1, h2⟩
    · exact .inl hc
    · exact .inr ⟨h1, by simp only [n2]; omega⟩
theorem toIntSS_loop (x0 : List (List Int)) (hx : ∀ x ∈ x0, List.length x ≤ 1048576) : ∀ (r pre suf : List (List Int)), x0 = pre ++ r → suf.length = r.length → x0.length ≤ 9223372036854775807 → Ev (fun k => laws_toIntSS.l0 k x0 (pre ++ suf) (pre.length : Int)) x0 := by
  intro r
  induction r with
  | nil =>
    intro pre suf e hs hl
    obtain rfl : suf = [] := List.eq_nil_of_length_eq_zero hs
    subst e
    refine Ev.step (f := fun _ => some _) (fun k => ?_) (Ev.now _)
    simp only [laws_toIntSS.l0]
    rw [if_neg (nlt_end pre)]
  | cons x r ih =>
    intro pre suf e hs hl
    match suf, hs with
    | y :: suf, hs =>
      subst e
      refine Ev.step (f := fun k => (laws_toIntS.f k x).bind fun t => if (pre.length : Int) < ((pre ++ y :: suf).length : Int) then laws_toIntSS.l0 k (pre ++ x :: r) ((pre ++ y :: suf).set ((pre.length : Int)).toNat t) (wrap64 ((pre.length : Int) + 1)) else none) (fun k => ?_) (Ev.bind (toIntS_ev x (hx x (by simp))) ?_)
      · simp only [laws_toIntSS.l0]
        rw [if_pos (lt_mid pre x r), if_pos (zle _), rd_L2_mid]
      · simp only [if_pos (lt_mid pre y suf)]
        rw [set_mid, wr_mid pre x r hl, app_mid pre x suf]
        exact ih (pre ++ [x]) suf (by simp) (by simpa using hs) hl
theorem toIntSS_ev (l : List (List Int)) (hl : n2 l ≤ 1048576) : Ev (fun k => laws_toIntSS.f k l) l := by
  have h1 := szSum_bound List.length l (by simpa only [n2] using hl)
  unfold laws_toIntSS.f
  simp only [if_pos (zle l.length), if_pos (show ((l.length : Int)).toNat ≤ 11728124029610 by omega)]
  exact toIntSS_loop l h1.2 l [] _ rfl (by simp) (by omega)
theorem eqIntSS_loop : ∀ (r s pre qre : List (List Int)), pre.length = qre.length → r.length = s.length → (pre ++ r).length ≤ 9223372036854775807 → (∀ x ∈ r, List.length x ≤ 1048576) → Ev (fun k => laws_eqIntSS.l0 k (pre ++ r) (qre ++ s) (pre.length : Int)) (decide (r = s)) := by
  intro r
  induction r with
  | nil =>
    intro s pre qre hp hs hl hx
    obtain rfl : s = [] := List.eq_nil_of_length_eq_zero hs.symm
    refine Ev.step (f := fun _ => some _) (fun k => ?_) (Ev.now _)
    simp only [laws_eqIntSS.l0]
    rw [if_neg (nlt_end pre)]
    rfl
  | cons x r ih =>
    intro s pre qre hp hs hl hx
    match s, hs with
    | y :: s, hs =>
      refine Ev.step (f := fun k => (laws_eqIntS.f k x y).bind fun t => if t = true then laws_eqIntSS.l0 k (pre ++ x :: r) (qre ++ y :: s) (wrap64 ((pre.length : Int) + 1)) else some false) (fun k => ?_) (Ev.bind (eqIntS_ev x y (hx x (by simp))) ?_)
      · simp only [laws_eqIntSS.l0]
        rw [if_pos (lt_mid pre x r), if_pos (zle _), if_pos (by rw [hp]; exact lt_mid qre y s), rd_L2_mid, hp, rd_L2_mid, ← hp]
      · by_cases e : x = y
        · subst e
          simp only [decide_true, if_true]
          rw [wr_mid pre x r hl, app_mid pre x r, app_mid qre x s]
          exact ev_eq (ih s (pre ++ [x]) (qre ++ [x]) (by simp [hp]) (by simpa using hs) (by simpa using hl) (fun y hy => hx y (by simp [hy]))) (by simp)
        · simp only [decide_eq_false e, if_neg Bool.false_ne_true]
          exact ev_eq (Ev.now _) (by simp [e])
theorem eqIntSS_ev (l s : List (List Int)) (hl : n2 l ≤ 1048576) : Ev (fun k => laws_eqIntSS.f k l s) (decide (l = s)) := by
  have h1 := szSum_bound List.length l (by simpa only [n2] using hl)
  unfold laws_eqIntSS.f
  by_cases h : l.length = s.length
  · simp only [if_pos (show (l.length : Int) = (s.length : Int) by omega)]
    exact eqIntSS_loop l s [] [] rfl h (by simp; omega) h1.2
  · simp only [if_neg (show ¬ (l.length : Int) = (s.length : Int) by omega)]
    refine ev_eq (Ev.now _) ?_
    have : l ≠ s := fun e => h (by rw [e])
    simp [this]
theorem rd_L3_mid (pre : List (List (List Int))) (x : List (List Int)) (r : List (List (List Int))) : rd_L2 (pre ++ x :: r) (pre.length : Int) = x := by simp [rd_L2]
theorem szIntSSS_loop : ∀ (r pre : List (List (List Int))) (a : Int), 0 ≤ a → a ≤ 1048576 → (pre ++ r).length ≤ 9223372036854775807 → (∀ x ∈ r, goodIntSS x) → ∃ t, Ev (fun k => laws_szIntSSS.l0 k (pre ++ r) a (pre.length : Int)) t ∧ (t < 0 ∨ (0 ≤ t ∧ t + (szSum n2 r : Int) ≤ a)) := by
  intro r
  induction r with
  | nil =>
    intro pre a h0 ha hl hg
    refine ⟨a, ?_, .inr ⟨h0, by simp [szSum]⟩⟩
    refine Ev.step (f := fun _ => some a) (fun k => ?_) (Ev.now _)
    simp only [laws_szIntSSS.l0]
    rw [if_neg (nlt_end pre)]
  | cons x r ih =>
    intro pre a h0 ha hl hg
    obtain ⟨t, hE, hc⟩ := szIntSS_cases x a h0 ha (hg x (by simp))
    rcases hc with hc | ⟨hc0, hc1⟩
    · refine ⟨-1, Ev.step (f := fun k => (laws_szIntSS.f k x a).bind fun t => if t < 0 then some (-1) else laws_szIntSSS.l0 k (pre ++ x :: r) t (wrap64 ((pre.length : Int) + 1))) (fun k => ?_) (Ev.bind hE ?_), .inl (by omega)⟩
      · simp only [laws_szIntSSS.l0]
        rw [if_pos (lt_mid pre x r), if_pos (zle _), rd_L3_mid]
      · simp only [if_pos hc]
        exact Ev.now _
    · obtain ⟨t2, ht2, h2⟩ := ih (pre ++ [x]) t hc0 (by omega) (by simpa using hl) (fun y hy => hg y (by simp [hy]))
      refine ⟨t2, Ev.step (f := fun k => (laws_szIntSS.f k x a).bind fun t => if t < 0 then some (-1) else laws_szIntSSS.l0 k (pre ++ x :: r) t (wrap64 ((pre.length : Int) + 1))) (fun k => ?_) (Ev.bind hE ?_), ?_⟩
      · simp only [laws_szIntSSS.l0]
        rw [if_pos (lt_mid pre x r), if_pos (zle _), rd_L3_mid]
      · simp only [if_neg (show ¬ t < 0 by omega)]
        rw [wr_mid pre x r hl, app_mid pre x r]
        exact ht2
      · rcases h2 with h2 | ⟨h2, h3⟩
        · exact .inl h2
        · exact .inr ⟨h2, by simp only [szSum]; omega⟩
def goodIntSSS (l : List (List (List Int))) : Prop := l.length ≤ 9223372036854775807 ∧ ∀ x ∈ l, goodIntSS x
theorem szIntSSS_cases (l : List (List (List Int))) (a : Int) (h0 : 0 ≤ a) (ha : a ≤ 1048576) (hg : goodIntSSS l) : ∃ t, Ev (fun k => laws_szIntSSS.f k l a) t ∧ (t < 0 ∨ (0 ≤ t ∧ t + (n3 l : Int) ≤ a)) := by
  have hl := hg.1
  unfold laws_szIntSSS.f
  rw [wr_id (by omega) (by omega)]
  by_cases h : a - (l.length : Int) < 0
  · exact ⟨-1, by simp only [if_pos h]; exact Ev.now _, .inl (by omega)⟩
  · obtain ⟨t, ht, hc⟩ := szIntSSS_loop l [] (a - l.length) (by omega) (by omega) hl hg.2
    refine ⟨t, by simp only [if_neg h]; exact ht, ?_⟩
    rcases hc with hc | ⟨h1, h2⟩
    · exact .inl hc
    · exact .inr ⟨h1, by simp only [n3]; omega⟩
theorem toIntSSS_loop (x0 : List (List (List Int))) (hx : ∀ x ∈ x0, n2 x ≤ 1048576) : ∀ (r pre suf : List (List (List Int))), x0 = pre ++ r → suf.length = r.length → x0.length ≤ 9223372036854775807 → Ev (fun k => laws_toIntSSS.l0 k x0 (pre ++ suf) (pre.length : Int)) x0 := by
  intro r
  induction r with
  | nil =>
    intro pre suf e hs hl
    obtain rfl : suf = [] := List.eq_nil_of_length_eq_zero hs
    subst e
    refine Ev.step (f := fun _ => some _) (fun k => ?_) (Ev.now _)
    simp only [laws_toIntSSS.l0]
    rw [if_neg (nlt_end pre)]
  | cons x r ih =>
    intro pre suf e hs hl
    match suf, hs with
    | y :: suf, hs =>
      subst e
      refine Ev.step (f := fun k => (laws_toIntSS.f k x).bind fun t => if (pre.length : Int) < ((pre ++ y :: suf).length : Int) then laws_toIntSSS.l0 k (pre ++ x :: r) ((pre ++ y :: suf).set ((pre.length : Int)).toNat t) (wrap64 ((pre.length : Int) + 1)) else none) (fun k => ?_) (Ev.bind (toIntSS_ev x (hx x (by simp))) ?_)
      · simp only [laws_toIntSSS.l0]
        rw [if_pos (lt_mid pre x r), if_pos (zle _), rd_L3_mid]
      · simp only [if_pos (lt_mid pre y suf)]
        rw [set_mid, wr_mid pre x r hl, app_mid pre x suf]
        exact ih (pre ++ [x]) suf (by simp) (by simpa using hs) hl
theorem toIntSSS_ev (l : List (List (List Int))) (hl : n3 l ≤ 1048576) : Ev (fun k => laws_toIntSSS.f k l) l := by
  have h1 := szSum_bound n2 l (by simpa only [n3] using hl)
  unfold laws_toIntSSS.f
  simp only [if_pos (zle l.length), if_pos (show ((l.length : Int)).toNat ≤ 11728124029610 by omega)]
  exact toIntSSS_loop l h1.2 l [] _ rfl (by simp) (by omega)
theorem eqIntSSS_loop : ∀ (r s pre qre : List (List (List Int))), pre.length = qre.length → r.length = s.length → (pre ++ r).length ≤ 9223372036854775807 → (∀ x ∈ r, n2 x ≤ 1048576) → Ev (fun k => laws_eqIntSSS.l0 k (pre ++ r) (qre ++ s) (pre.length : Int)) (decide (r = s)) := by
  intro r
  induction r with
  | nil =>
    intro s pre qre hp hs hl hx
    obtain rfl : s = [] := List.eq_nil_of_length_eq_zero hs.symm
    refine Ev.step (f := fun _ => some _) (fun k => ?_) (Ev.now _)
    simp only [laws_eqIntSSS.l0]
    rw [if_neg (nlt_end pre)]
    rfl
  | cons x r ih =>
    intro s pre qre hp hs hl hx
    match s, hs with
    | y :: s, hs =>
      refine Ev.step (f := fun k => (laws_eqIntSS.f k x y).bind fun t => if t = true then laws_eqIntSSS.l0 k (pre ++ x :: r) (qre ++ y :: s) (wrap64 ((pre.length : Int) + 1)) else some false) (fun k => ?_) (Ev.bind (eqIntSS_ev x y (hx x (by simp))) ?_)
      · simp only [laws_eqIntSSS.l0]
        rw [if_pos (lt_mid pre x r), if_pos (zle _), if_pos (by rw [hp]; exact lt_mid qre y s), rd_L3_mid, hp, rd_L3_mid, ← hp]
      · by_cases e : x = y
        · subst e
          simp only [decide_true, if_true]
          rw [wr_mid pre x r hl, app_mid pre x r, app_mid qre x s]
          exact ev_eq (ih s (pre ++ [x]) (qre ++ [x]) (by simp [hp]) (by simpa using hs) (by simpa using hl) (fun y hy => hx y (by simp [hy]))) (by simp)
        · simp only [decide_eq_false e, if_neg Bool.false_ne_true]
          exact ev_eq (Ev.now _) (by simp [e])
theorem eqIntSSS_ev (l s : List (List (List Int))) (hl : n3 l ≤ 1048576) : Ev (fun k => laws_eqIntSSS.f k l s) (decide (l = s)) := by
  have h1 := szSum_bound n2 l (by simpa only [n3] using hl)
  unfold laws_eqIntSSS.f
  by_cases h : l.length = s.length
  · simp only [if_pos (show (l.length : Int) = (s.length : Int) by omega)]
    exact eqIntSSS_loop l s [] [] rfl h (by simp; omega) h1.2
  · simp only [if_neg (show ¬ (l.length : Int) = (s.length : Int) by omega)]
    refine ev_eq (Ev.now _) ?_
    have : l ≠ s := fun e => h (by rw [e])
    simp [this]
theorem good2 {l : List (List Int)} (h : goodL (goodL goodI) l) : goodIntSS l := ⟨h.1, fun x hx => (h.2 x hx).1⟩
theorem good3 {l : List (List (List Int))} (h : goodL (goodL (goodL goodI)) l) : goodIntSSS l := ⟨h.1, fun x hx => good2 (h.2 x hx)⟩
theorem szNight_cases (f0 : List Int) (f1 : Int) (f2 : Int) (a : Int) (h0 : 0 ≤ a) (ha : a ≤ 1048576) (g0 : goodIntS f0) : ∃ t, laws_szNight.f f0 f1 f2 a = some t ∧ (t < 0 ∨ (0 ≤ t ∧ t + (List.length f0 : Int) ≤ a)) := by
  unfold laws_szNight.f
  obtain ⟨t0, e0, hc⟩ := szIntS_cases f0 a h0 ha g0
  rcases hc with hc | ⟨b0, c0⟩
  · exact ⟨-1, by simp [e0, hc], .inl (by omega)⟩
  exact ⟨t0, by simp [e0, show ¬ t0 < 0 by omega], .inr ⟨b0, by omega⟩⟩
theorem toNight_ev (f0 : List Int) (f1 : Int) (f2 : Int) (h0 : List.length f0 ≤ 1048576) : Ev (fun k => laws_toNight.f k f0 f1 f2) (f0, f1, f2) := Ev.bind (toIntS_ev f0 h0) (Ev.now _)
theorem eqNight_ev (f0 : List Int) (f1 : Int) (f2 : Int) (s0 : List Int) (s1 : Int) (s2 : Int) (h0 : List.length f0 ≤ 1048576) : Ev (fun k => laws_eqNight.f k f0 f1 f2 s0 s1 s2) (decide ((f0, f1, f2) = (s0, s1, s2))) := by
  obtain ⟨K0, e0⟩ := eqIntS_ev f0 s0 h0
  refine ⟨K0, fun k hk => ?_⟩
  unfold laws_eqNight.f
  simp only [e0 k (by omega), Option.bind_some]
  by_cases q0 : f0 = s0 <;> try simp only [q0, decide_true, decide_false, if_true, if_false, Bool.false_eq_true, beq_self_eq_true]
  by_cases q1 : f1 = s1 <;> try simp only [q1, decide_true, decide_false, if_true, if_false, Bool.false_eq_true, beq_self_eq_true]
  by_cases q2 : f2 = s2 <;> try simp only [q2, decide_true, decide_false, if_true, if_false, Bool.false_eq_true, beq_self_eq_true]
  all_goals simp_all
end Go.Proofs.Ytpobeakggacdpaa.Pure
