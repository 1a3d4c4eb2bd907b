import Derived.Test.YtamljjfhkolflaaC6zx0
import Derived.Test.YtamljjfhkolflaaC6zx1
import Derived.Test.YtamljjfhkolflaaC6zx12
import Derived.Test.YtamljjfhkolflaaC6zx6
import Derived.Test.YtamljjfhkolflaaC6zH0
import Derived.Test.YtamljjfhkolflaaC6zH1
import Derived.Test.YtamljjfhkolflaaC6zQ0
namespace Go.Proofs.Ytamljjfhkolflaa.Pure
open Go.RowKit Go.Proofs.Ytamljjfhkolflaa.C6 Go.Proofs.Ytamljjfhkolflaa.H Go.Proofs.YtamljjfhkolflaaW.PrintWords Go.Proofs.YtamljjfhkolflaaW.PrintLast Go.Proofs.YtamljjfhkolflaaW.PrintMore
set_option linter.unusedVariables false
set_option linter.unusedSimpArgs false
def goodIntS (l : List Int) : Prop := l.length ≤ 9223372036854775807
theorem szIntS_cases (l : List Int) (a : Int) (h0 : 0 ≤ a) (ha : a ≤ 1048576) (hg : goodIntS l) : ∃ t, laws_szIntS.f l a = some t ∧ (t < 0 ∨ (0 ≤ t ∧ t + (l.length : Int) ≤ a)) := by
  have hl : l.length ≤ 9223372036854775807 := hg
  unfold laws_szIntS.f
  rw [wr_id (by omega) (by omega)]
  by_cases h : a - (l.length : Int) < 0
  · exact ⟨-1, by rw [if_pos h], .inl (by omega)⟩
  · exact ⟨_, by rw [if_neg h], .inr ⟨by omega, by omega⟩⟩
theorem toIntS_loop (x0 : List Int) : ∀ (r pre suf : List Int), x0 = pre ++ r → suf.length = r.length → x0.length ≤ 9223372036854775807 → Ev (fun k => laws_toIntS.l0 k x0 (pre ++ suf) (pre.length : Int)) x0 := by
  intro r
  induction r with
  | nil =>
    intro pre suf e hs hl
    obtain rfl : suf = [] := List.eq_nil_of_length_eq_zero hs
    subst e
    refine Ev.step (f := fun _ => some _) (fun k => ?_) (Ev.now _)
    simp only [laws_toIntS.l0]
    rw [if_neg (nlt_end pre)]
  | cons x r ih =>
    intro pre suf e hs hl
    match suf, hs with
    | y :: suf, hs =>
      subst e
      refine Ev.step (fun k => ?_) (ev_eq (ih (pre ++ [x]) suf (by simp) (by simpa using hs) hl) rfl)
      simp only [laws_toIntS.l0]
      rw [if_pos (lt_mid pre x r), if_pos (zle _), if_pos (lt_mid pre y suf), rd_mid, set_mid, wr_mid pre x r hl, app_mid pre x suf]
theorem toIntS_ev (l : List Int) (hl : l.length ≤ 1048576) : Ev (fun k => laws_toIntS.f k l) l := by
  unfold laws_toIntS.f
  simp only [if_pos (zle l.length), if_pos (show ((l.length : Int)).toNat ≤ 35184372088832 by omega)]
  exact toIntS_loop l l [] _ rfl (by simp) (by omega)
theorem eqIntS_loop : ∀ (r s pre qre : List Int), pre.length = qre.length → r.length = s.length → (pre ++ r).length ≤ 9223372036854775807 → Ev (fun k => laws_eqIntS.l0 k (pre ++ r) (qre ++ s) (pre.length : Int)) (decide (r = s)) := by
  intro r
  induction r with
  | nil =>
    intro s pre qre hp hs hl
    obtain rfl : s = [] := List.eq_nil_of_length_eq_zero hs.symm
    refine Ev.step (f := fun _ => some _) (fun k => ?_) (Ev.now _)
    simp only [laws_eqIntS.l0]
    rw [if_neg (nlt_end pre)]
    rfl
  | cons x r ih =>
    intro s pre qre hp hs hl
    match s, hs with
    | y :: s, hs =>
      by_cases e : x = y
      · subst e
        refine Ev.step (fun k => ?_) (ev_eq (ih s (pre ++ [x]) (qre ++ [x]) (by simp [hp]) (by simpa using hs) (by simpa using hl)) (by simp))
        simp only [laws_eqIntS.l0]
        rw [if_pos (lt_mid pre x r), if_pos (zle _), if_pos (by rw [hp]; exact lt_mid qre x s), rd_mid, hp, rd_mid, if_pos rfl, ← hp, wr_mid pre x r hl, app_mid pre x r, app_mid qre x s]
      · refine Ev.step (f := fun _ => some _) (fun k => ?_) (Ev.now _)
        simp only [laws_eqIntS.l0]
        rw [if_pos (lt_mid pre x r), if_pos (zle _), if_pos (by rw [hp]; exact lt_mid qre y s), rd_mid, hp, rd_mid, if_neg e]
        simp [e]
theorem eqIntS_ev (l s : List Int) (hl : l.length ≤ 1048576) : Ev (fun k => laws_eqIntS.f k l s) (decide (l = s)) := by
  unfold laws_eqIntS.f
  by_cases h : l.length = s.length
  · simp only [if_pos (show (l.length : Int) = (s.length : Int) by omega)]
    exact eqIntS_loop l s [] [] rfl h (by simp; omega)
  · simp only [if_neg (show ¬ (l.length : Int) = (s.length : Int) by omega)]
    refine ev_eq (Ev.now _) ?_
    have : l ≠ s := fun e => h (by rw [e])
    simp [this]
def goodBoolS (l : List Bool) : Prop := l.length ≤ 9223372036854775807
theorem szBoolS_cases (l : List Bool) (a : Int) (h0 : 0 ≤ a) (ha : a ≤ 1048576) (hg : goodBoolS l) : ∃ t, laws_szBoolS.f l a = some t ∧ (t < 0 ∨ (0 ≤ t ∧ t + (l.length : Int) ≤ a)) := by
  have hl : l.length ≤ 9223372036854775807 := hg
  unfold laws_szBoolS.f
  rw [wr_id (by omega) (by omega)]
  by_cases h : a - (l.length : Int) < 0
  · exact ⟨-1, by rw [if_pos h], .inl (by omega)⟩
  · exact ⟨_, by rw [if_neg h], .inr ⟨by omega, by omega⟩⟩
theorem toBoolS_loop (x0 : List Bool) : ∀ (r pre suf : List Bool), x0 = pre ++ r → suf.length = r.length → x0.length ≤ 9223372036854775807 → Ev (fun k => laws_toBoolS.l0 k x0 (pre ++ suf) (pre.length : Int)) x0 := by
  intro r
  induction r with
  | nil =>
    intro pre suf e hs hl
    obtain rfl : suf = [] := List.eq_nil_of_length_eq_zero hs
    subst e
    refine Ev.step (f := fun _ => some _) (fun k => ?_) (Ev.now _)
    simp only [laws_toBoolS.l0]
    rw [if_neg (nlt_end pre)]
  | cons x r ih =>
    intro pre suf e hs hl
    match suf, hs with
    | y :: suf, hs =>
      subst e
      refine Ev.step (fun k => ?_) (ev_eq (ih (pre ++ [x]) suf (by simp) (by simpa using hs) hl) rfl)
      simp only [laws_toBoolS.l0]
      rw [if_pos (lt_mid pre x r), if_pos (zle _), if_pos (lt_mid pre y suf), rdOf_mid, set_mid, wr_mid pre x r hl, app_mid pre x suf]
theorem toBoolS_ev (l : List Bool) (hl : l.length ≤ 1048576) : Ev (fun k => laws_toBoolS.f k l) l := by
  unfold laws_toBoolS.f
  simp only [if_pos (zle l.length), if_pos (show ((l.length : Int)).toNat ≤ 281474976710656 by omega)]
  exact toBoolS_loop l l [] _ rfl (by simp) (by omega)
theorem eqBoolS_loop : ∀ (r s pre qre : List Bool), pre.length = qre.length → r.length = s.length → (pre ++ r).length ≤ 9223372036854775807 → Ev (fun k => laws_eqBoolS.l0 k (pre ++ r) (qre ++ s) (pre.length : Int)) (decide (r = s)) := by
  intro r
  induction r with
  | nil =>
    intro s pre qre hp hs hl
    obtain rfl : s = [] := List.eq_nil_of_length_eq_zero hs.symm
    refine Ev.step (f := fun _ => some _) (fun k => ?_) (Ev.now _)
    simp only [laws_eqBoolS.l0]
    rw [if_neg (nlt_end pre)]
    rfl
  | cons x r ih =>
    intro s pre qre hp hs hl
    match s, hs with
    | y :: s, hs =>
      by_cases e : x = y
      · subst e
        refine Ev.step (fun k => ?_) (ev_eq (ih s (pre ++ [x]) (qre ++ [x]) (by simp [hp]) (by simpa using hs) (by simpa using hl)) (by simp))
        simp only [laws_eqBoolS.l0]
        rw [if_pos (lt_mid pre x r), if_pos (zle _), if_pos (by rw [hp]; exact lt_mid qre x s), rdOf_mid, hp, rdOf_mid, if_neg (by simp), ← hp, wr_mid pre x r hl, app_mid pre x r, app_mid qre x s]
      · refine Ev.step (f := fun _ => some _) (fun k => ?_) (Ev.now _)
        simp only [laws_eqBoolS.l0]
        rw [if_pos (lt_mid pre x r), if_pos (zle _), if_pos (by rw [hp]; exact lt_mid qre y s), rdOf_mid, hp, rdOf_mid, if_pos (by simpa using e)]
        simp [e]
theorem eqBoolS_ev (l s : List Bool) (hl : l.length ≤ 1048576) : Ev (fun k => laws_eqBoolS.f k l s) (decide (l = s)) := by
  unfold laws_eqBoolS.f
  by_cases h : l.length = s.length
  · simp only [if_pos (show (l.length : Int) = (s.length : Int) by omega)]
    exact eqBoolS_loop l s [] [] rfl h (by simp; omega)
  · simp only [if_neg (show ¬ (l.length : Int) = (s.length : Int) by omega)]
    refine ev_eq (Ev.now _) ?_
    have : l ≠ s := fun e => h (by rw [e])
    simp [this]
theorem szParty_cases (f0 : List Int) (f1 : Int) (a : Int) (h0 : 0 ≤ a) (ha : a ≤ 1048576) (g0 : goodIntS f0) : ∃ t, laws_szParty.f f0 f1 a = some t ∧ (t < 0 ∨ (0 ≤ t ∧ t + (List.length f0 : Int) ≤ a)) := by
  unfold laws_szParty.f
  obtain ⟨t0, e0, hc⟩ := szIntS_cases f0 a h0 ha g0
  rcases hc with hc | ⟨b0, c0⟩
  · exact ⟨-1, by simp [e0, hc], .inl (by omega)⟩
  exact ⟨t0, by simp [e0, show ¬ t0 < 0 by omega], .inr ⟨b0, by omega⟩⟩
theorem toParty_ev (f0 : List Int) (f1 : Int) (h0 : List.length f0 ≤ 1048576) : Ev (fun k => laws_toParty.f k f0 f1) (f0, f1) := Ev.bind (toIntS_ev f0 h0) (Ev.now _)
theorem eqParty_ev (f0 : List Int) (f1 : Int) (s0 : List Int) (s1 : Int) (h0 : List.length f0 ≤ 1048576) : Ev (fun k => laws_eqParty.f k f0 f1 s0 s1) (decide ((f0, f1) = (s0, s1))) := by
  obtain ⟨K0, e0⟩ := eqIntS_ev f0 s0 h0
  refine ⟨K0, fun k hk => ?_⟩
  unfold laws_eqParty.f
  simp only [e0 k (by omega), Option.bind_some]
  by_cases q0 : f0 = s0 <;> try simp only [q0, decide_true, decide_false, if_true, if_false, Bool.false_eq_true, beq_self_eq_true]
  by_cases q1 : f1 = s1 <;> try simp only [q1, decide_true, decide_false, if_true, if_false, Bool.false_eq_true, beq_self_eq_true]
  all_goals simp_all
theorem szState_cases (f0 : List Bool) (f1 : Bool) (a : Int) (h0 : 0 ≤ a) (ha : a ≤ 1048576) (g0 : goodBoolS f0) : ∃ t, laws_szState.f f0 f1 a = some t ∧ (t < 0 ∨ (0 ≤ t ∧ t + (List.length f0 : Int) ≤ a)) := by
  unfold laws_szState.f
  obtain ⟨t0, e0, hc⟩ := szBoolS_cases f0 a h0 ha g0
  rcases hc with hc | ⟨b0, c0⟩
  · exact ⟨-1, by simp [e0, hc], .inl (by omega)⟩
  exact ⟨t0, by simp [e0, show ¬ t0 < 0 by omega], .inr ⟨b0, by omega⟩⟩
theorem toState_ev (f0 : List Bool) (f1 : Bool) (h0 : List.length f0 ≤ 1048576) : Ev (fun k => laws_toState.f k f0 f1) (f0, f1) := Ev.bind (toBoolS_ev f0 h0) (Ev.now _)
theorem eqState_ev (f0 : List Bool) (f1 : Bool) (s0 : List Bool) (s1 : Bool) (h0 : List.length f0 ≤ 1048576) : Ev (fun k => laws_eqState.f k f0 f1 s0 s1) (decide ((f0, f1) = (s0, s1))) := by
  obtain ⟨K0, e0⟩ := eqBoolS_ev f0 s0 h0
  refine ⟨K0, fun k hk => ?_⟩
  unfold laws_eqState.f
  simp only [e0 k (by omega), Option.bind_some]
  by_cases q0 : f0 = s0 <;> try simp only [q0, decide_true, decide_false, if_true, if_false, Bool.false_eq_true, beq_self_eq_true]
  by_cases q1 : f1 = s1 <;> try simp only [q1, decide_true, decide_false, if_true, if_false, Bool.false_eq_true, beq_self_eq_true]
  all_goals simp_all
end Go.Proofs.Ytamljjfhkolflaa.Pure
