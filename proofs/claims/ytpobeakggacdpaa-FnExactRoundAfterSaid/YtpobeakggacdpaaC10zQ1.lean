import Derived.Test.YtpobeakggacdpaaC10zx0
import Derived.Test.YtpobeakggacdpaaC10zx1
import Derived.Test.YtpobeakggacdpaaC10zx13
import Derived.Test.YtpobeakggacdpaaC10zx2
import Derived.Test.YtpobeakggacdpaaC10zx3
import Derived.Test.YtpobeakggacdpaaC10zH0
import Derived.Test.YtpobeakggacdpaaC10zH1
import Derived.Test.YtpobeakggacdpaaC10zQ0
namespace Go.Proofs.Ytpobeakggacdpaa.Pure
open Go.RowKit Go.Proofs.Ytpobeakggacdpaa.C10 Go.Proofs.Ytpobeakggacdpaa.H Go.Proofs.YtpobeakggacdpaaW.PrintWords Go.Proofs.YtpobeakggacdpaaW.PrintLast Go.Proofs.YtpobeakggacdpaaW.PrintMore
set_option linter.unusedVariables false
set_option linter.unusedSimpArgs false
def goodIntS (l : List Int) : Prop := l.length ≤ 9223372036854775807
theorem szIntS_cases (l : List Int) (a : Int) (h0 : 0 ≤ a) (ha : a ≤ 1048576) (hg : goodIntS l) : ∃ t, laws_szIntS.f l a = some t ∧ (t < 0 ∨ (0 ≤ t ∧ t + (l.length : Int) ≤ a)) := by
  have hl : l.length ≤ 9223372036854775807 := hg
  unfold laws_szIntS.f
  rw [wr_id (by omega) (by omega)]
  by_cases h : a - (l.length : Int) < 0
  · exact ⟨-1, by rw [if_pos h], .inl (by omega)⟩
  · exact ⟨_, by rw [if_neg h], .inr ⟨by omega, by omega⟩⟩
theorem toIntS_loop (x0 : List Int) : ∀ (r pre suf : List Int), x0 = pre ++ r → suf.length = r.length → x0.length ≤ 9223372036854775807 → Ev (fun k => laws_toIntS.l0 k x0 (pre ++ suf) (pre.length : Int)) x0 := by
  intro r
  induction r with
  | nil =>
    intro pre suf e hs hl
    obtain rfl : suf = [] := List.eq_nil_of_length_eq_zero hs
    subst e
    refine Ev.step (f := fun _ => some _) (fun k => ?_) (Ev.now _)
    simp only [laws_toIntS.l0]
    rw [if_neg (nlt_end pre)]
  | cons x r ih =>
    intro pre suf e hs hl
    match suf, hs with
    | y :: suf, hs =>
      subst e
      refine Ev.step (fun k => ?_) (ev_eq (ih (pre ++ [x]) suf (by simp) (by simpa using hs) hl) rfl)
      simp only [laws_toIntS.l0]
      rw [if_pos (lt_mid pre x r), if_pos (zle _), if_pos (lt_mid pre y suf), rd_mid, set_mid, wr_mid pre x r hl, app_mid pre x suf]
theorem toIntS_ev (l : List Int) (hl : l.length ≤ 1048576) : Ev (fun k => laws_toIntS.f k l) l := by
  unfold laws_toIntS.f
  simp only [if_pos (zle l.length), if_pos (show ((l.length : Int)).toNat ≤ 35184372088832 by omega)]
  exact toIntS_loop l l [] _ rfl (by simp) (by omega)
theorem markIntS_loop : ∀ (r pre : List Int) (a : Int), (pre ++ r).length ≤ 9223372036854775807 → Ev (fun k => laws_markIntS.l0 k (pre ++ r) a (pre.length : Int)) ((mkS r a).1, pre ++ (mkS r a).2) := by
  intro r
  induction r with
  | nil =>
    intro pre a hl
    refine Ev.step (f := fun _ => some _) (fun k => ?_) (Ev.now _)
    simp only [laws_markIntS.l0]
    rw [if_neg (nlt_end pre)]
    rfl
  | cons x r ih =>
    intro pre a hl
    refine Ev.step (fun k => ?_) (ev_eq (ih (pre ++ [a]) (wrap64 (a + 1)) (by simpa using hl)) (by simp [mkS]))
    simp only [laws_markIntS.l0]
    rw [if_pos (lt_mid pre x r), if_pos (zle _), set_mid, wr_mid pre x r hl, app_mid pre (a) r]
    simp
theorem markIntS_ev (l : List Int) (a : Int) (hl : l.length ≤ 1048576) : Ev (fun k => laws_markIntS.f k l a) (mkS l a) := markIntS_loop l [] a (by simp; omega)
theorem eqIntS_loop : ∀ (r s pre qre : List Int), pre.length = qre.length → r.length = s.length → (pre ++ r).length ≤ 9223372036854775807 → Ev (fun k => laws_eqIntS.l0 k (pre ++ r) (qre ++ s) (pre.length : Int)) (decide (r = s)) := by
  intro r
  induction r with
  | nil =>
    intro s pre qre hp hs hl
    obtain rfl : s = [] := List.eq_nil_of_length_eq_zero hs.symm
    refine Ev.step (f := fun _ => some _) (fun k => ?_) (Ev.now _)
    simp only [laws_eqIntS.l0]
    rw [if_neg (nlt_end pre)]
    rfl
  | cons x r ih =>
    intro s pre qre hp hs hl
    match s, hs with
    | y :: s, hs =>
      by_cases e : x = y
      · subst e
        refine Ev.step (fun k => ?_) (ev_eq (ih s (pre ++ [x]) (qre ++ [x]) (by simp [hp]) (by simpa using hs) (by simpa using hl)) (by simp))
        simp only [laws_eqIntS.l0]
        rw [if_pos (lt_mid pre x r), if_pos (zle _), if_pos (by rw [hp]; exact lt_mid qre x s), rd_mid, hp, rd_mid, if_pos rfl, ← hp, wr_mid pre x r hl, app_mid pre x r, app_mid qre x s]
      · refine Ev.step (f := fun _ => some _) (fun k => ?_) (Ev.now _)
        simp only [laws_eqIntS.l0]
        rw [if_pos (lt_mid pre x r), if_pos (zle _), if_pos (by rw [hp]; exact lt_mid qre y s), rd_mid, hp, rd_mid, if_neg e]
        simp [e]
theorem eqIntS_ev (l s : List Int) (hl : l.length ≤ 1048576) : Ev (fun k => laws_eqIntS.f k l s) (decide (l = s)) := by
  unfold laws_eqIntS.f
  by_cases h : l.length = s.length
  · simp only [if_pos (show (l.length : Int) = (s.length : Int) by omega)]
    exact eqIntS_loop l s [] [] rfl h (by simp; omega)
  · simp only [if_neg (show ¬ (l.length : Int) = (s.length : Int) by omega)]
    refine ev_eq (Ev.now _) ?_
    have : l ≠ s := fun e => h (by rw [e])
    simp [this]
def goodBoolS (l : List Bool) : Prop := l.length ≤ 9223372036854775807
theorem szBoolS_cases (l : List Bool) (a : Int) (h0 : 0 ≤ a) (ha : a ≤ 1048576) (hg : goodBoolS l) : ∃ t, laws_szBoolS.f l a = some t ∧ (t < 0 ∨ (0 ≤ t ∧ t + (l.length : Int) ≤ a)) := by
  have hl : l.length ≤ 9223372036854775807 := hg
  unfold laws_szBoolS.f
  rw [wr_id (by omega) (by omega)]
  by_cases h : a - (l.length : Int) < 0
  · exact ⟨-1, by rw [if_pos h], .inl (by omega)⟩
  · exact ⟨_, by rw [if_neg h], .inr ⟨by omega, by omega⟩⟩
theorem toBoolS_loop (x0 : List Bool) : ∀ (r pre suf : List Bool), x0 = pre ++ r → suf.length = r.length → x0.length ≤ 9223372036854775807 → Ev (fun k => laws_toBoolS.l0 k x0 (pre ++ suf) (pre.length : Int)) x0 := by
  intro r
  induction r with
  | nil =>
    intro pre suf e hs hl
    obtain rfl : suf = [] := List.eq_nil_of_length_eq_zero hs
    subst e
    refine Ev.step (f := fun _ => some _) (fun k => ?_) (Ev.now _)
    simp only [laws_toBoolS.l0]
    rw [if_neg (nlt_end pre)]
  | cons x r ih =>
    intro pre suf e hs hl
    match suf, hs with
    | y :: suf, hs =>
      subst e
      refine Ev.step (fun k => ?_) (ev_eq (ih (pre ++ [x]) suf (by simp) (by simpa using hs) hl) rfl)
      simp only [laws_toBoolS.l0]
      rw [if_pos (lt_mid pre x r), if_pos (zle _), if_pos (lt_mid pre y suf), rdOf_mid, set_mid, wr_mid pre x r hl, app_mid pre x suf]
theorem toBoolS_ev (l : List Bool) (hl : l.length ≤ 1048576) : Ev (fun k => laws_toBoolS.f k l) l := by
  unfold laws_toBoolS.f
  simp only [if_pos (zle l.length), if_pos (show ((l.length : Int)).toNat ≤ 281474976710656 by omega)]
  exact toBoolS_loop l l [] _ rfl (by simp) (by omega)
theorem markBoolS_loop : ∀ (r pre : List Bool) (a : Int), (pre ++ r).length ≤ 9223372036854775807 → Ev (fun k => laws_markBoolS.l0 k (pre ++ r) a (pre.length : Int)) ((mkB r a).1, pre ++ (mkB r a).2) := by
  intro r
  induction r with
  | nil =>
    intro pre a hl
    refine Ev.step (f := fun _ => some _) (fun k => ?_) (Ev.now _)
    simp only [laws_markBoolS.l0]
    rw [if_neg (nlt_end pre)]
    rfl
  | cons x r ih =>
    intro pre a hl
    refine Ev.step (fun k => ?_) (ev_eq (ih (pre ++ [Int.tmod a 3 == 0]) (wrap64 (a + 1)) (by simpa using hl)) (by simp [mkB]))
    simp only [laws_markBoolS.l0]
    rw [if_pos (lt_mid pre x r), if_pos (zle _), set_mid, wr_mid pre x r hl, app_mid pre (Int.tmod a 3 == 0) r]
    simp
theorem markBoolS_ev (l : List Bool) (a : Int) (hl : l.length ≤ 1048576) : Ev (fun k => laws_markBoolS.f k l a) (mkB l a) := markBoolS_loop l [] a (by simp; omega)
theorem eqBoolS_loop : ∀ (r s pre qre : List Bool), pre.length = qre.length → r.length = s.length → (pre ++ r).length ≤ 9223372036854775807 → Ev (fun k => laws_eqBoolS.l0 k (pre ++ r) (qre ++ s) (pre.length : Int)) (decide (r = s)) := by
  intro r
  induction r with
  | nil =>
    intro s pre qre hp hs hl
    obtain rfl : s = [] := List.eq_nil_of_length_eq_zero hs.symm
    refine Ev.step (f := fun _ => some _) (fun k => ?_) (Ev.now _)
    simp only [laws_eqBoolS.l0]
    rw [if_neg (nlt_end pre)]
    rfl
  | cons x r ih =>
    intro s pre qre hp hs hl
    match s, hs with
    | y :: s, hs =>
      by_cases e : x = y
      · subst e
        refine Ev.step (fun k => ?_) (ev_eq (ih s (pre ++ [x]) (qre ++ [x]) (by simp [hp]) (by simpa using hs) (by simpa using hl)) (by simp))
        simp only [laws_eqBoolS.l0]
        rw [if_pos (lt_mid pre x r), if_pos (zle _), if_pos (by rw [hp]; exact lt_mid qre x s), rdOf_mid, hp, rdOf_mid, if_neg (by simp), ← hp, wr_mid pre x r hl, app_mid pre x r, app_mid qre x s]
      · refine Ev.step (f := fun _ => some _) (fun k => ?_) (Ev.now _)
        simp only [laws_eqBoolS.l0]
        rw [if_pos (lt_mid pre x r), if_pos (zle _), if_pos (by rw [hp]; exact lt_mid qre y s), rdOf_mid, hp, rdOf_mid, if_pos (by simpa using e)]
        simp [e]
theorem eqBoolS_ev (l s : List Bool) (hl : l.length ≤ 1048576) : Ev (fun k => laws_eqBoolS.f k l s) (decide (l = s)) := by
  unfold laws_eqBoolS.f
  by_cases h : l.length = s.length
  · simp only [if_pos (show (l.length : Int) = (s.length : Int) by omega)]
    exact eqBoolS_loop l s [] [] rfl h (by simp; omega)
  · simp only [if_neg (show ¬ (l.length : Int) = (s.length : Int) by omega)]
    refine ev_eq (Ev.now _) ?_
    have : l ≠ s := fun e => h (by rw [e])
    simp [this]
theorem heldBoolS_loop : ∀ (r pre : List Bool) (a : Int), (pre ++ r).length ≤ 9223372036854775807 → Ev (fun k => laws_heldBoolS.l0 k (pre ++ (mkB r a).2) a (pre.length : Int)) (mkB r a).1 := by
  intro r
  induction r with
  | nil =>
    intro pre a hl
    refine Ev.step (f := fun _ => some a) (fun k => ?_) (Ev.now _)
    show laws_heldBoolS.l0 (k + 1) (pre ++ []) a (pre.length : Int) = some a
    simp only [laws_heldBoolS.l0]
    rw [if_neg (nlt_end pre)]
  | cons x r ih =>
    intro pre a hl
    refine Ev.step (fun k => ?_) (ev_eq (ih (pre ++ [Int.tmod a 3 == 0]) (wrap64 (a + 1)) (by simpa using hl)) (by simp [mkB]))
    show laws_heldBoolS.l0 (k + 1) (pre ++ (Int.tmod a 3 == 0) :: (mkB r (wrap64 (a + 1))).2) a (pre.length : Int) = _
    simp only [laws_heldBoolS.l0]
    rw [if_pos (lt_mid pre (Int.tmod a 3 == 0) _), if_pos (zle _), rdOf_mid, if_neg (by simp), wr_mid pre (Int.tmod a 3 == 0) _ (by simp [mkB_len] at hl ⊢; omega), app_mid pre (Int.tmod a 3 == 0)]
theorem heldBoolS_ev (l : List Bool) (a : Int) (h0 : 0 ≤ a) (ha : a + l.length ≤ 1000000000000000) (hl : l.length ≤ 1048576) : Ev (fun k => laws_heldBoolS.f k (mkB l a).2 a) (mkB l a).1 := heldBoolS_loop l [] a (by simp; omega)
theorem rd_L2_mid (pre : List (List Int)) (x : List Int) (r : List (List Int)) : rd_L2 (pre ++ x :: r) (pre.length : Int) = x := by simp [rd_L2]
theorem szIntSS_loop : ∀ (r pre : List (List Int)) (a : Int), 0 ≤ a → a ≤ 1048576 → (pre ++ r).length ≤ 9223372036854775807 → (∀ x ∈ r, goodIntS x) → ∃ t, Ev (fun k => laws_szIntSS.l0 k (pre ++ r) a (pre.length : Int)) t ∧ (t < 0 ∨ (0 ≤ t ∧ t + (szSum List.length r : Int) ≤ a)) := by
  intro r
  induction r with
  | nil =>
    intro pre a h0 ha hl hg
    refine ⟨a, ?_, .inr ⟨h0, by simp [szSum]⟩⟩
    refine Ev.step (f := fun _ => some a) (fun k => ?_) (Ev.now _)
    simp only [laws_szIntSS.l0]
    rw [if_neg (nlt_end pre)]
  | cons x r ih =>
    intro pre a h0 ha hl hg
    obtain ⟨t, ht, hc⟩ := szIntS_cases x a h0 ha (hg x (by simp))
    have hE : Ev (fun k => laws_szIntS.f x a) t := ev_some ht
    rcases hc with hc | ⟨hc0, hc1⟩
    · refine ⟨-1, Ev.step (f := fun k => (laws_szIntS.f x a).bind fun t => if t < 0 then some (-1) else laws_szIntSS.l0 k (pre ++ x :: r) t (wrap64 ((pre.length : Int) + 1))) (fun k => ?_) (Ev.bind hE ?_), .inl (by omega)⟩
      · simp only [laws_szIntSS.l0]
        rw [if_pos (lt_mid pre x r), if_pos (zle _), rd_L2_mid]
      · simp only [if_pos hc]
        exact Ev.now _
    · obtain ⟨t2, ht2, h2⟩ := ih (pre ++ [x]) t hc0 (by omega) (by simpa using hl) (fun y hy => hg y (by simp [hy]))
      refine ⟨t2, Ev.step (f := fun k => (laws_szIntS.f x a).bind fun t => if t < 0 then some (-1) else laws_szIntSS.l0 k (pre ++ x :: r) t (wrap64 ((pre.length : Int) + 1))) (fun k => ?_) (Ev.bind hE ?_), ?_⟩
      · simp only [laws_szIntSS.l0]
        rw [if_pos (lt_mid pre x r), if_pos (zle _), rd_L2_mid]
      · simp only [if_neg (show ¬ t < 0 by omega)]
        rw [wr_mid pre x r hl, app_mid pre x r]
        exact ht2
      · rcases h2 with h2 | ⟨h2, h3⟩
        · exact .inl h2
        · exact .inr ⟨h2, by simp only [szSum]; omega⟩
def goodIntSS (l : List (List Int)) : Prop := l.length ≤ 9223372036854775807 ∧ ∀ x ∈ l, goodIntS x
theorem szIntSS_cases (l : List (List Int)) (a : Int) (h0 : 0 ≤ a) (ha : a ≤ 1048576) (hg : goodIntSS l) : ∃ t, Ev (fun k => laws_szIntSS.f k l a) t ∧ (t < 0 ∨ (0 ≤ t ∧ t + (n2 l : Int) ≤ a)) := by
  have hl := hg.1
  unfold laws_szIntSS.f
  rw [wr_id (by omega) (by omega)]
  by_cases h : a - (l.length : Int) < 0
  · exact ⟨-1, by simp only [if_pos h]; exact Ev.now _, .inl (by omega)⟩
  · obtain ⟨t, ht, hc⟩ := szIntSS_loop l [] (a - l.length) (by omega) (by omega) hl hg.2
    refine ⟨t, by simp only [if_neg h]; exact ht, ?_⟩
    rcases hc with hc | ⟨h1, h2⟩
    · exact .inl hc
    · exact .inr ⟨h1, by simp only [n2]; omega⟩
theorem toIntSS_loop (x0 : List (List Int)) (hx : ∀ x ∈ x0, List.length x ≤ 1048576) : ∀ (r pre suf : List (List Int)), x0 = pre ++ r → suf.length = r.length → x0.length ≤ 9223372036854775807 → Ev (fun k => laws_toIntSS.l0 k x0 (pre ++ suf) (pre.length : Int)) x0 := by
  intro r
  induction r with
  | nil =>
    intro pre suf e hs hl
    obtain rfl : suf = [] := List.eq_nil_of_length_eq_zero hs
    subst e
    refine Ev.step (f := fun _ => some _) (fun k => ?_) (Ev.now _)
    simp only [laws_toIntSS.l0]
    rw [if_neg (nlt_end pre)]
  | cons x r ih =>
    intro pre suf e hs hl
    match suf, hs with
    | y :: suf, hs =>
      subst e
      refine Ev.step (f := fun k => (laws_toIntS.f k x).bind fun t => if (pre.length : Int) < ((pre ++ y :: suf).length : Int) then laws_toIntSS.l0 k (pre ++ x :: r) ((pre ++ y :: suf).set ((pre.length : Int)).toNat t) (wrap64 ((pre.length : Int) + 1)) else none) (fun k => ?_) (Ev.bind (toIntS_ev x (hx x (by simp))) ?_)
      · simp only [laws_toIntSS.l0]
        rw [if_pos (lt_mid pre x r), if_pos (zle _), rd_L2_mid]
      · simp only [if_pos (lt_mid pre y suf)]
        rw [set_mid, wr_mid pre x r hl, app_mid pre x suf]
        exact ih (pre ++ [x]) suf (by simp) (by simpa using hs) hl
theorem toIntSS_ev (l : List (List Int)) (hl : n2 l ≤ 1048576) : Ev (fun k => laws_toIntSS.f k l) l := by
  have h1 := szSum_bound List.length l (by simpa only [n2] using hl)
  unfold laws_toIntSS.f
  simp only [if_pos (zle l.length), if_pos (show ((l.length : Int)).toNat ≤ 11728124029610 by omega)]
  exact toIntSS_loop l h1.2 l [] _ rfl (by simp) (by omega)
theorem eqIntSS_loop : ∀ (r s pre qre : List (List Int)), pre.length = qre.length → r.length = s.length → (pre ++ r).length ≤ 9223372036854775807 → (∀ x ∈ r, List.length x ≤ 1048576) → Ev (fun k => laws_eqIntSS.l0 k (pre ++ r) (qre ++ s) (pre.length : Int)) (decide (r = s)) := by
  intro r
  induction r with
  | nil =>
    intro s pre qre hp hs hl hx
    obtain rfl : s = [] := List.eq_nil_of_length_eq_zero hs.symm
    refine Ev.step (f := fun _ => some _) (fun k => ?_) (Ev.now _)
    simp only [laws_eqIntSS.l0]
    rw [if_neg (nlt_end pre)]
    rfl
  | cons x r ih =>
    intro s pre qre hp hs hl hx
    match s, hs with
    | y :: s, hs =>
      refine Ev.step (f := fun k => (laws_eqIntS.f k x y).bind fun t => if t = true then laws_eqIntSS.l0 k (pre ++ x :: r) (qre ++ y :: s) (wrap64 ((pre.length : Int) + 1)) else some false) (fun k => ?_) (Ev.bind (eqIntS_ev x y (hx x (by simp))) ?_)
      · simp only [laws_eqIntSS.l0]
        rw [if_pos (lt_mid pre x r), if_pos (zle _), if_pos (by rw [hp]; exact lt_mid qre y s), rd_L2_mid, hp, rd_L2_mid, ← hp]
      · by_cases e : x = y
        · subst e
          simp only [decide_true, if_true]
          rw [wr_mid pre x r hl, app_mid pre x r, app_mid qre x s]
          exact ev_eq (ih s (pre ++ [x]) (qre ++ [x]) (by simp [hp]) (by simpa using hs) (by simpa using hl) (fun y hy => hx y (by simp [hy]))) (by simp)
        · simp only [decide_eq_false e, if_neg Bool.false_ne_true]
          exact ev_eq (Ev.now _) (by simp [e])
theorem eqIntSS_ev (l s : List (List Int)) (hl : n2 l ≤ 1048576) : Ev (fun k => laws_eqIntSS.f k l s) (decide (l = s)) := by
  have h1 := szSum_bound List.length l (by simpa only [n2] using hl)
  unfold laws_eqIntSS.f
  by_cases h : l.length = s.length
  · simp only [if_pos (show (l.length : Int) = (s.length : Int) by omega)]
    exact eqIntSS_loop l s [] [] rfl h (by simp; omega) h1.2
  · simp only [if_neg (show ¬ (l.length : Int) = (s.length : Int) by omega)]
    refine ev_eq (Ev.now _) ?_
    have : l ≠ s := fun e => h (by rw [e])
    simp [this]
theorem good2 {l : List (List Int)} (h : goodL (goodL goodI) l) : goodIntSS l := ⟨h.1, fun x hx => (h.2 x hx).1⟩
theorem markIntSS_ev (l : List (List Int)) (a : Int) : laws_markIntSS.f l a = some (mkSS l a) := rfl
theorem szNight_cases (f0 : List Int) (f1 : Int) (f2 : Int) (a : Int) (h0 : 0 ≤ a) (ha : a ≤ 1048576) (g0 : goodIntS f0) : ∃ t, laws_szNight.f f0 f1 f2 a = some t ∧ (t < 0 ∨ (0 ≤ t ∧ t + (List.length f0 : Int) ≤ a)) := by
  unfold laws_szNight.f
  obtain ⟨t0, e0, hc⟩ := szIntS_cases f0 a h0 ha g0
  rcases hc with hc | ⟨b0, c0⟩
  · exact ⟨-1, by simp [e0, hc], .inl (by omega)⟩
  exact ⟨t0, by simp [e0, show ¬ t0 < 0 by omega], .inr ⟨b0, by omega⟩⟩
theorem toNight_ev (f0 : List Int) (f1 : Int) (f2 : Int) (h0 : List.length f0 ≤ 1048576) : Ev (fun k => laws_toNight.f k f0 f1 f2) (f0, f1, f2) := Ev.bind (toIntS_ev f0 h0) (Ev.now _)
theorem eqNight_ev (f0 : List Int) (f1 : Int) (f2 : Int) (s0 : List Int) (s1 : Int) (s2 : Int) (h0 : List.length f0 ≤ 1048576) : Ev (fun k => laws_eqNight.f k f0 f1 f2 s0 s1 s2) (decide ((f0, f1, f2) = (s0, s1, s2))) := by
  obtain ⟨K0, e0⟩ := eqIntS_ev f0 s0 h0
  refine ⟨K0, fun k hk => ?_⟩
  unfold laws_eqNight.f
  simp only [e0 k (by omega), Option.bind_some]
  by_cases q0 : f0 = s0 <;> try simp only [q0, decide_true, decide_false, if_true, if_false, Bool.false_eq_true, beq_self_eq_true]
  by_cases q1 : f1 = s1 <;> try simp only [q1, decide_true, decide_false, if_true, if_false, Bool.false_eq_true, beq_self_eq_true]
  by_cases q2 : f2 = s2 <;> try simp only [q2, decide_true, decide_false, if_true, if_false, Bool.false_eq_true, beq_self_eq_true]
  all_goals simp_all
theorem markNight_ev (f0 : List Int) (f1 : Int) (f2 : Int) (a : Int) (h0 : List.length f0 ≤ 1048576) : Ev (fun k => laws_markNight.f k f0 f1 f2 a) ((mkS f0 (a)).1, (mkS f0 (a)).2) := Ev.bind (markIntS_ev f0 (a) h0) (Ev.now _)
theorem szCamp_cases (f0 : List Bool) (f1 : Int) (a : Int) (h0 : 0 ≤ a) (ha : a ≤ 1048576) (g0 : goodBoolS f0) : ∃ t, laws_szCamp.f f0 f1 a = some t ∧ (t < 0 ∨ (0 ≤ t ∧ t + (List.length f0 : Int) ≤ a)) := by
  unfold laws_szCamp.f
  obtain ⟨t0, e0, hc⟩ := szBoolS_cases f0 a h0 ha g0
  rcases hc with hc | ⟨b0, c0⟩
  · exact ⟨-1, by simp [e0, hc], .inl (by omega)⟩
  exact ⟨t0, by simp [e0, show ¬ t0 < 0 by omega], .inr ⟨b0, by omega⟩⟩
theorem toCamp_ev (f0 : List Bool) (f1 : Int) (h0 : List.length f0 ≤ 1048576) : Ev (fun k => laws_toCamp.f k f0 f1) (f0, f1) := Ev.bind (toBoolS_ev f0 h0) (Ev.now _)
theorem eqCamp_ev (f0 : List Bool) (f1 : Int) (s0 : List Bool) (s1 : Int) (h0 : List.length f0 ≤ 1048576) : Ev (fun k => laws_eqCamp.f k f0 f1 s0 s1) (decide ((f0, f1) = (s0, s1))) := by
  obtain ⟨K0, e0⟩ := eqBoolS_ev f0 s0 h0
  refine ⟨K0, fun k hk => ?_⟩
  unfold laws_eqCamp.f
  simp only [e0 k (by omega), Option.bind_some]
  by_cases q0 : f0 = s0 <;> try simp only [q0, decide_true, decide_false, if_true, if_false, Bool.false_eq_true, beq_self_eq_true]
  by_cases q1 : f1 = s1 <;> try simp only [q1, decide_true, decide_false, if_true, if_false, Bool.false_eq_true, beq_self_eq_true]
  all_goals simp_all
theorem markCamp_ev (f0 : List Bool) (f1 : Int) (a : Int) (h0 : List.length f0 ≤ 1048576) : Ev (fun k => laws_markCamp.f k f0 f1 a) ((mkB f0 (a)).1, (mkB f0 (a)).2) := Ev.bind (markBoolS_ev f0 (a) h0) (Ev.now _)
theorem heldCamp_ev (f0 : List Bool) (f1 : Int) (a : Int) (h0 : 0 ≤ a) (ha : a ≤ 1000000000) (h0 : List.length f0 ≤ 1048576) : Ev (fun k => laws_heldCamp.f k (mkB f0 (a)).2 f1 a) ((mkB f0 (a)).1) := by
  have b0 := mkB_bound f0 (a) (by omega) (by have := h0; omega)
  unfold laws_heldCamp.f
  refine Ev.bind (heldBoolS_ev f0 (a) (by omega) (by have := h0; omega) h0) ?_
  simp only [if_neg (show ¬ (mkB f0 (a)).1 < 0 by omega)]
  exact Ev.now _
end Go.Proofs.Ytpobeakggacdpaa.Pure
