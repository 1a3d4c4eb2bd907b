import Derived.Test.YtikjdmiohpdnaaaC5zx0
import Derived.Test.YtikjdmiohpdnaaaC5zx1
import Derived.Test.YtikjdmiohpdnaaaC5zx5
import Derived.Test.YtikjdmiohpdnaaaC5zx7
import Derived.Test.YtikjdmiohpdnaaaC5zx8
import Derived.Test.YtikjdmiohpdnaaaC5zH0
import Derived.Test.YtikjdmiohpdnaaaC5zH1
import Derived.Test.YtikjdmiohpdnaaaC5zQ0
namespace Go.Proofs.Ytikjdmiohpdnaaa.Pure
open Go.RowKit Go.Proofs.Ytikjdmiohpdnaaa.C5 Go.Proofs.Ytikjdmiohpdnaaa.H Go.Proofs.YtikjdmiohpdnaaaW.PrintWords Go.Proofs.YtikjdmiohpdnaaaW.PrintLast Go.Proofs.YtikjdmiohpdnaaaW.PrintMore
set_option linter.unusedVariables false
set_option linter.unusedSimpArgs false
def goodIntS (l : List Int) : Prop := l.length ≤ 9223372036854775807
theorem szIntS_cases (l : List Int) (a : Int) (h0 : 0 ≤ a) (ha : a ≤ 1048576) (hg : goodIntS l) : ∃ t, laws_szIntS.f l a = some t ∧ (t < 0 ∨ (0 ≤ t ∧ t + (l.length : Int) ≤ a)) := by
  have hl : l.length ≤ 9223372036854775807 := hg
  unfold laws_szIntS.f
  rw [wr_id (by omega) (by omega)]
  by_cases h : a - (l.length : Int) < 0
  · exact ⟨-1, by rw [if_pos h], .inl (by omega)⟩
  · exact ⟨_, by rw [if_neg h], .inr ⟨by omega, by omega⟩⟩
theorem toIntS_loop (x0 : List Int) : ∀ (r pre suf : List Int), x0 = pre ++ r → suf.length = r.length → x0.length ≤ 9223372036854775807 → Ev (fun k => laws_toIntS.l0 k x0 (pre ++ suf) (pre.length : Int)) x0 := by
  intro r
  induction r with
  | nil =>
    intro pre suf e hs hl
    obtain rfl : suf = [] := List.eq_nil_of_length_eq_zero hs
    subst e
    refine Ev.step (f := fun _ => some _) (fun k => ?_) (Ev.now _)
    simp only [laws_toIntS.l0]
    rw [if_neg (nlt_end pre)]
  | cons x r ih =>
    intro pre suf e hs hl
    match suf, hs with
    | y :: suf, hs =>
      subst e
      refine Ev.step (fun k => ?_) (ev_eq (ih (pre ++ [x]) suf (by simp) (by simpa using hs) hl) rfl)
      simp only [laws_toIntS.l0]
      rw [if_pos (lt_mid pre x r), if_pos (zle _), if_pos (lt_mid pre y suf), rd_mid, set_mid, wr_mid pre x r hl, app_mid pre x suf]
theorem toIntS_ev (l : List Int) (hl : l.length ≤ 1048576) : Ev (fun k => laws_toIntS.f k l) l := by
  unfold laws_toIntS.f
  simp only [if_pos (zle l.length), if_pos (show ((l.length : Int)).toNat ≤ 35184372088832 by omega)]
  exact toIntS_loop l l [] _ rfl (by simp) (by omega)
theorem markIntS_loop : ∀ (r pre : List Int) (a : Int), (pre ++ r).length ≤ 9223372036854775807 → Ev (fun k => laws_markIntS.l0 k (pre ++ r) a (pre.length : Int)) ((mkS r a).1, pre ++ (mkS r a).2) := by
  intro r
  induction r with
  | nil =>
    intro pre a hl
    refine Ev.step (f := fun _ => some _) (fun k => ?_) (Ev.now _)
    simp only [laws_markIntS.l0]
    rw [if_neg (nlt_end pre)]
    rfl
  | cons x r ih =>
    intro pre a hl
    refine Ev.step (fun k => ?_) (ev_eq (ih (pre ++ [a]) (wrap64 (a + 1)) (by simpa using hl)) (by simp [mkS]))
    simp only [laws_markIntS.l0]
    rw [if_pos (lt_mid pre x r), if_pos (zle _), set_mid, wr_mid pre x r hl, app_mid pre (a) r]
    simp
theorem markIntS_ev (l : List Int) (a : Int) (hl : l.length ≤ 1048576) : Ev (fun k => laws_markIntS.f k l a) (mkS l a) := markIntS_loop l [] a (by simp; omega)
theorem eqIntS_loop : ∀ (r s pre qre : List Int), pre.length = qre.length → r.length = s.length → (pre ++ r).length ≤ 9223372036854775807 → Ev (fun k => laws_eqIntS.l0 k (pre ++ r) (qre ++ s) (pre.length : Int)) (decide (r = s)) := by
  intro r
  induction r with
  | nil =>
    intro s pre qre hp hs hl
    obtain rfl : s = [] := List.eq_nil_of_length_eq_zero hs.symm
    refine Ev.step (f := fun _ => some _) (fun k => ?_) (Ev.now _)
    simp only [laws_eqIntS.l0]
    rw [if_neg (nlt_end pre)]
    rfl
  | cons x r ih =>
    intro s pre qre hp hs hl
    match s, hs with
    | y :: s, hs =>
      by_cases e : x = y
      · subst e
        refine Ev.step (fun k => ?_) (ev_eq (ih s (pre ++ [x]) (qre ++ [x]) (by simp [hp]) (by simpa using hs) (by simpa using hl)) (by simp))
        simp only [laws_eqIntS.l0]
        rw [if_pos (lt_mid pre x r), if_pos (zle _), if_pos (by rw [hp]; exact lt_mid qre x s), rd_mid, hp, rd_mid, if_pos rfl, ← hp, wr_mid pre x r hl, app_mid pre x r, app_mid qre x s]
      · refine Ev.step (f := fun _ => some _) (fun k => ?_) (Ev.now _)
        simp only [laws_eqIntS.l0]
        rw [if_pos (lt_mid pre x r), if_pos (zle _), if_pos (by rw [hp]; exact lt_mid qre y s), rd_mid, hp, rd_mid, if_neg e]
        simp [e]
theorem eqIntS_ev (l s : List Int) (hl : l.length ≤ 1048576) : Ev (fun k => laws_eqIntS.f k l s) (decide (l = s)) := by
  unfold laws_eqIntS.f
  by_cases h : l.length = s.length
  · simp only [if_pos (show (l.length : Int) = (s.length : Int) by omega)]
    exact eqIntS_loop l s [] [] rfl h (by simp; omega)
  · simp only [if_neg (show ¬ (l.length : Int) = (s.length : Int) by omega)]
    refine ev_eq (Ev.now _) ?_
    have : l ≠ s := fun e => h (by rw [e])
    simp [this]
def goodBoolS (l : List Bool) : Prop := l.length ≤ 9223372036854775807
theorem szBoolS_cases (l : List Bool) (a : Int) (h0 : 0 ≤ a) (ha : a ≤ 1048576) (hg : goodBoolS l) : ∃ t, laws_szBoolS.f l a = some t ∧ (t < 0 ∨ (0 ≤ t ∧ t + (l.length : Int) ≤ a)) := by
  have hl : l.length ≤ 9223372036854775807 := hg
  unfold laws_szBoolS.f
  rw [wr_id (by omega) (by omega)]
  by_cases h : a - (l.length : Int) < 0
  · exact ⟨-1, by rw [if_pos h], .inl (by omega)⟩
  · exact ⟨_, by rw [if_neg h], .inr ⟨by omega, by omega⟩⟩
theorem toBoolS_loop (x0 : List Bool) : ∀ (r pre suf : List Bool), x0 = pre ++ r → suf.length = r.length → x0.length ≤ 9223372036854775807 → Ev (fun k => laws_toBoolS.l0 k x0 (pre ++ suf) (pre.length : Int)) x0 := by
  intro r
  induction r with
  | nil =>
    intro pre suf e hs hl
    obtain rfl : suf = [] := List.eq_nil_of_length_eq_zero hs
    subst e
    refine Ev.step (f := fun _ => some _) (fun k => ?_) (Ev.now _)
    simp only [laws_toBoolS.l0]
    rw [if_neg (nlt_end pre)]
  | cons x r ih =>
    intro pre suf e hs hl
    match suf, hs with
    | y :: suf, hs =>
      subst e
      refine Ev.step (fun k => ?_) (ev_eq (ih (pre ++ [x]) suf (by simp) (by simpa using hs) hl) rfl)
      simp only [laws_toBoolS.l0]
      rw [if_pos (lt_mid pre x r), if_pos (zle _), if_pos (lt_mid pre y suf), rdOf_mid, set_mid, wr_mid pre x r hl, app_mid pre x suf]
theorem toBoolS_ev (l : List Bool) (hl : l.length ≤ 1048576) : Ev (fun k => laws_toBoolS.f k l) l := by
  unfold laws_toBoolS.f
  simp only [if_pos (zle l.length), if_pos (show ((l.length : Int)).toNat ≤ 281474976710656 by omega)]
  exact toBoolS_loop l l [] _ rfl (by simp) (by omega)
theorem markBoolS_loop : ∀ (r pre : List Bool) (a : Int), (pre ++ r).length ≤ 9223372036854775807 → Ev (fun k => laws_markBoolS.l0 k (pre ++ r) a (pre.length : Int)) ((mkB r a).1, pre ++ (mkB r a).2) := by
  intro r
  induction r with
  | nil =>
    intro pre a hl
    refine Ev.step (f := fun _ => some _) (fun k => ?_) (Ev.now _)
    simp only [laws_markBoolS.l0]
    rw [if_neg (nlt_end pre)]
    rfl
  | cons x r ih =>
    intro pre a hl
    refine Ev.step (fun k => ?_) (ev_eq (ih (pre ++ [Int.tmod a 3 == 0]) (wrap64 (a + 1)) (by simpa using hl)) (by simp [mkB]))
    simp only [laws_markBoolS.l0]
    rw [if_pos (lt_mid pre x r), if_pos (zle _), set_mid, wr_mid pre x r hl, app_mid pre (Int.tmod a 3 == 0) r]
    simp
theorem markBoolS_ev (l : List Bool) (a : Int) (hl : l.length ≤ 1048576) : Ev (fun k => laws_markBoolS.f k l a) (mkB l a) := markBoolS_loop l [] a (by simp; omega)
theorem eqBoolS_loop : ∀ (r s pre qre : List Bool), pre.length = qre.length → r.length = s.length → (pre ++ r).length ≤ 9223372036854775807 → Ev (fun k => laws_eqBoolS.l0 k (pre ++ r) (qre ++ s) (pre.length : Int)) (decide (r = s)) := by
  intro r
  induction r with
  | nil =>
    intro s pre qre hp hs hl
    obtain rfl : s = [] := List.eq_nil_of_length_eq_zero hs.symm
    refine Ev.step (f := fun _ => some _) (fun k => ?_) (Ev.now _)
    simp only [laws_eqBoolS.l0]
    rw [if_neg (nlt_end pre)]
    rfl
  | cons x r ih =>
    intro s pre qre hp hs hl
    match s, hs with
    | y :: s, hs =>
      by_cases e : x = y
      · subst e
        refine Ev.step (fun k => ?_) (ev_eq (ih s (pre ++ [x]) (qre ++ [x]) (by simp [hp]) (by simpa using hs) (by simpa using hl)) (by simp))
        simp only [laws_eqBoolS.l0]
        rw [if_pos (lt_mid pre x r), if_pos (zle _), if_pos (by rw [hp]; exact lt_mid qre x s), rdOf_mid, hp, rdOf_mid, if_neg (by simp), ← hp, wr_mid pre x r hl, app_mid pre x r, app_mid qre x s]
      · refine Ev.step (f := fun _ => some _) (fun k => ?_) (Ev.now _)
        simp only [laws_eqBoolS.l0]
        rw [if_pos (lt_mid pre x r), if_pos (zle _), if_pos (by rw [hp]; exact lt_mid qre y s), rdOf_mid, hp, rdOf_mid, if_pos (by simpa using e)]
        simp [e]
theorem eqBoolS_ev (l s : List Bool) (hl : l.length ≤ 1048576) : Ev (fun k => laws_eqBoolS.f k l s) (decide (l = s)) := by
  unfold laws_eqBoolS.f
  by_cases h : l.length = s.length
  · simp only [if_pos (show (l.length : Int) = (s.length : Int) by omega)]
    exact eqBoolS_loop l s [] [] rfl h (by simp; omega)
  · simp only [if_neg (show ¬ (l.length : Int) = (s.length : Int) by omega)]
    refine ev_eq (Ev.now _) ?_
    have : l ≠ s := fun e => h (by rw [e])
    simp [this]
theorem heldBoolS_loop : ∀ (r pre : List Bool) (a : Int), (pre ++ r).length ≤ 9223372036854775807 → Ev (fun k => laws_heldBoolS.l0 k (pre ++ (mkB r a).2) a (pre.length : Int)) (mkB r a).1 := by
  intro r
  induction r with
  | nil =>
    intro pre a hl
    refine Ev.step (f := fun _ => some a) (fun k => ?_) (Ev.now _)
    show laws_heldBoolS.l0 (k + 1) (pre ++ []) a (pre.length : Int) = some a
    simp only [laws_heldBoolS.l0]
    rw [if_neg (nlt_end pre)]
  | cons x r ih =>
    intro pre a hl
    refine Ev.step (fun k => ?_) (ev_eq (ih (pre ++ [Int.tmod a 3 == 0]) (wrap64 (a + 1)) (by simpa using hl)) (by simp [mkB]))
    show laws_heldBoolS.l0 (k + 1) (pre ++ (Int.tmod a 3 == 0) :: (mkB r (wrap64 (a + 1))).2) a (pre.length : Int) = _
    simp only [laws_heldBoolS.l0]
    rw [if_pos (lt_mid pre (Int.tmod a 3 == 0) _), if_pos (zle _), rdOf_mid, if_neg (by simp), wr_mid pre (Int.tmod a 3 == 0) _ (by simp [mkB_len] at hl ⊢; omega), app_mid pre (Int.tmod a 3 == 0)]
theorem heldBoolS_ev (l : List Bool) (a : Int) (h0 : 0 ≤ a) (ha : a + l.length ≤ 1000000000000000) (hl : l.length ≤ 1048576) : Ev (fun k => laws_heldBoolS.f k (mkB l a).2 a) (mkB l a).1 := heldBoolS_loop l [] a (by simp; omega)
theorem szState_cases (f0 : List Bool) (f1 : Bool) (a : Int) (h0 : 0 ≤ a) (ha : a ≤ 1048576) (g0 : goodBoolS f0) : ∃ t, laws_szState.f f0 f1 a = some t ∧ (t < 0 ∨ (0 ≤ t ∧ t + (List.length f0 : Int) ≤ a)) := by
  unfold laws_szState.f
  obtain ⟨t0, e0, hc⟩ := szBoolS_cases f0 a h0 ha g0
  rcases hc with hc | ⟨b0, c0⟩
  · exact ⟨-1, by simp [e0, hc], .inl (by omega)⟩
  exact ⟨t0, by simp [e0, show ¬ t0 < 0 by omega], .inr ⟨b0, by omega⟩⟩
theorem toState_ev (f0 : List Bool) (f1 : Bool) (h0 : List.length f0 ≤ 1048576) : Ev (fun k => laws_toState.f k f0 f1) (f0, f1) := Ev.bind (toBoolS_ev f0 h0) (Ev.now _)
theorem eqState_ev (f0 : List Bool) (f1 : Bool) (s0 : List Bool) (s1 : Bool) (h0 : List.length f0 ≤ 1048576) : Ev (fun k => laws_eqState.f k f0 f1 s0 s1) (decide ((f0, f1) = (s0, s1))) := by
  obtain ⟨K0, e0⟩ := eqBoolS_ev f0 s0 h0
  refine ⟨K0, fun k hk => ?_⟩
  unfold laws_eqState.f
  simp only [e0 k (by omega), Option.bind_some]
  by_cases q0 : f0 = s0 <;> try simp only [q0, decide_true, decide_false, if_true, if_false, Bool.false_eq_true, beq_self_eq_true]
  by_cases q1 : f1 = s1 <;> try simp only [q1, decide_true, decide_false, if_true, if_false, Bool.false_eq_true, beq_self_eq_true]
  all_goals simp_all
theorem markState_ev (f0 : List Bool) (f1 : Bool) (a : Int) (h0 : List.length f0 ≤ 1048576) : Ev (fun k => laws_markState.f k f0 f1 a) ((mkB f0 (a)).1, (mkB f0 (a)).2) := Ev.bind (markBoolS_ev f0 (a) h0) (Ev.now _)
theorem heldState_ev (f0 : List Bool) (f1 : Bool) (a : Int) (h0 : 0 ≤ a) (ha : a ≤ 1000000000) (h0 : List.length f0 ≤ 1048576) : Ev (fun k => laws_heldState.f k (mkB f0 (a)).2 f1 a) ((mkB f0 (a)).1) := by
  have b0 := mkB_bound f0 (a) (by omega) (by have := h0; omega)
  unfold laws_heldState.f
  refine Ev.bind (heldBoolS_ev f0 (a) (by omega) (by have := h0; omega) h0) ?_
  simp only [if_neg (show ¬ (mkB f0 (a)).1 < 0 by omega)]
  exact Ev.now _
theorem szCrew_cases (f0 : List Int) (f1 : List Bool) (f2 : Int) (a : Int) (h0 : 0 ≤ a) (ha : a ≤ 1048576) (g0 : goodIntS f0) (g1 : goodBoolS f1) : ∃ t, laws_szCrew.f f0 f1 f2 a = some t ∧ (t < 0 ∨ (0 ≤ t ∧ t + (List.length f0 : Int) + (List.length f1 : Int) ≤ a)) := by
  unfold laws_szCrew.f
  obtain ⟨t0, e0, hc⟩ := szIntS_cases f0 a h0 ha g0
  rcases hc with hc | ⟨b0, c0⟩
  · exact ⟨-1, by simp [e0, hc], .inl (by omega)⟩
  obtain ⟨t1, e1, hc⟩ := szBoolS_cases f1 t0 (by omega) (by omega) g1
  rcases hc with hc | ⟨b1, c1⟩
  · exact ⟨-1, by simp [e0, e1, show ¬ t0 < 0 by omega, hc], .inl (by omega)⟩
  exact ⟨t1, by simp [e0, e1, show ¬ t0 < 0 by omega, show ¬ t1 < 0 by omega], .inr ⟨b1, by omega⟩⟩
theorem toCrew_ev (f0 : List Int) (f1 : List Bool) (f2 : Int) (h0 : List.length f0 ≤ 1048576) (h1 : List.length f1 ≤ 1048576) : Ev (fun k => laws_toCrew.f k f0 f1 f2) (f0, f1, f2) := Ev.bind (toIntS_ev f0 h0) (Ev.bind (toBoolS_ev f1 h1) (Ev.now _))
theorem eqCrew_ev (f0 : List Int) (f1 : List Bool) (f2 : Int) (s0 : List Int) (s1 : List Bool) (s2 : Int) (h0 : List.length f0 ≤ 1048576) (h1 : List.length f1 ≤ 1048576) : Ev (fun k => laws_eqCrew.f k f0 f1 f2 s0 s1 s2) (decide ((f0, f1, f2) = (s0, s1, s2))) := by
  obtain ⟨K0, e0⟩ := eqIntS_ev f0 s0 h0
  obtain ⟨K1, e1⟩ := eqBoolS_ev f1 s1 h1
  refine ⟨K0 + K1, fun k hk => ?_⟩
  unfold laws_eqCrew.f
  simp only [e0 k (by omega), e1 k (by omega), Option.bind_some]
  by_cases q0 : f0 = s0 <;> try simp only [q0, decide_true, decide_false, if_true, if_false, Bool.false_eq_true, beq_self_eq_true]
  by_cases q1 : f1 = s1 <;> try simp only [q1, decide_true, decide_false, if_true, if_false, Bool.false_eq_true, beq_self_eq_true]
  by_cases q2 : f2 = s2 <;> try simp only [q2, decide_true, decide_false, if_true, if_false, Bool.false_eq_true, beq_self_eq_true]
  all_goals simp_all
theorem markCrew_ev (f0 : List Int) (f1 : List Bool) (f2 : Int) (a : Int) (h0 : List.length f0 ≤ 1048576) (h1 : List.length f1 ≤ 1048576) : Ev (fun k => laws_markCrew.f k f0 f1 f2 a) ((mkB f1 ((mkS f0 (a)).1)).1, (mkS f0 (a)).2, (mkB f1 ((mkS f0 (a)).1)).2) := Ev.bind (markIntS_ev f0 (a) h0) (Ev.bind (markBoolS_ev f1 ((mkS f0 (a)).1) h1) (Ev.now _))
end Go.Proofs.Ytikjdmiohpdnaaa.Pure
