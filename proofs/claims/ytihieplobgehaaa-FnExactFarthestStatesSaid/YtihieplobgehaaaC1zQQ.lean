import Derived.Test.YtihieplobgehaaaC1zx0
import Derived.Test.YtihieplobgehaaaC1zH0
import Derived.Test.YtihieplobgehaaaC1zH1
import Derived.Test.YtihieplobgehaaaC1zx1
import Derived.Test.YtihieplobgehaaaC1zx15
import Derived.Test.YtihieplobgehaaaC1zx16
import Derived.Test.YtihieplobgehaaaC1zx8
import Derived.Test.YtihieplobgehaaaC1zx9
import Derived.Test.YtihieplobgehaaaC1zx10
import Derived.Test.YtihieplobgehaaaC1zx11
import Derived.Test.YtihieplobgehaaaC1zx12
import Derived.Test.YtihieplobgehaaaC1zx3
import Derived.Test.YtihieplobgehaaaC1zx7
import Derived.Test.YtihieplobgehaaaC1zx4
import Derived.Test.YtihieplobgehaaaC1zx2
import Derived.Test.YtihieplobgehaaaC1zx5
import Derived.Test.YtihieplobgehaaaC1zx6
import Derived.Test.YtihieplobgehaaaC1zx14
import Derived.Test.YtihieplobgehaaaC1zx13
import Derived.Test.YtihieplobgehaaaC1zH2
import Derived.Test.YtihieplobgehaaaC1zS
namespace Go.Proofs.Ytihieplobgehaaa.Pure
open Go.RowKit Go.Proofs.Ytihieplobgehaaa.C1 Go.Proofs.Ytihieplobgehaaa.H Go.Proofs.YtihieplobgehaaaW.PrintWords Go.Proofs.YtihieplobgehaaaW.PrintLast Go.Proofs.YtihieplobgehaaaW.PrintMore
set_option linter.unusedVariables false
set_option linter.unusedSimpArgs false
def szSum {α : Type} (f : α → Nat) : List α → Nat
  | [] => 0
  | x :: l => f x + szSum f l
def n2 (l : List (List Int)) : Nat := l.length + szSum List.length l
def n3 (l : List (List (List Int))) : Nat := l.length + szSum n2 l
theorem szSum_bound {α : Type} (f : α → Nat) (l : List α) {B : Nat} (h : l.length + szSum f l ≤ B) : l.length ≤ B ∧ ∀ x ∈ l, f x ≤ B := by
  refine ⟨by omega, ?_⟩
  have h2 : szSum f l ≤ B := by omega
  clear h
  induction l with
  | nil => intro x hx; cases hx
  | cons y l ih =>
    simp only [szSum] at h2
    intro x hx
    rcases List.mem_cons.1 hx with rfl | hx
    · omega
    · exact ih (by omega) x hx
theorem mkS_bound (l : List Int) : ∀ a : Int, 0 ≤ a → a + l.length ≤ 1000000000000000 → a ≤ (mkS l a).1 ∧ (mkS l a).1 ≤ a + l.length := by
  induction l with
  | nil => intro a _ _; simp [mkS]
  | cons x l ih =>
    intro a h0 h1
    simp only [List.length_cons] at h1
    simp only [mkS]
    rw [wr_id (by omega) (by omega)]
    have := ih (a + 1) (by omega) (by omega)
    simp only [List.length_cons]
    omega
theorem mkB_bound (l : List Bool) : ∀ a : Int, 0 ≤ a → a + l.length ≤ 1000000000000000 → a ≤ (mkB l a).1 ∧ (mkB l a).1 ≤ a + l.length := by
  induction l with
  | nil => intro a _ _; simp [mkB]
  | cons x l ih =>
    intro a h0 h1
    simp only [List.length_cons] at h1
    simp only [mkB]
    rw [wr_id (by omega) (by omega)]
    have := ih (a + 1) (by omega) (by omega)
    simp only [List.length_cons]
    omega
theorem mkB_len (l : List Bool) : ∀ a : Int, (mkB l a).2.length = l.length := by
  induction l with
  | nil => intro a; rfl
  | cons x l ih => intro a; simp only [mkB, List.length_cons]; rw [ih]
end Go.Proofs.Ytihieplobgehaaa.Pure

namespace Go.Proofs.Ytihieplobgehaaa.Pure
open Go.RowKit Go.Proofs.Ytihieplobgehaaa.C1 Go.Proofs.Ytihieplobgehaaa.H Go.Proofs.YtihieplobgehaaaW.PrintWords Go.Proofs.YtihieplobgehaaaW.PrintLast Go.Proofs.YtihieplobgehaaaW.PrintMore
set_option linter.unusedVariables false
set_option linter.unusedSimpArgs false
def goodIntS (l : List Int) : Prop := l.length ≤ 9223372036854775807
theorem szIntS_cases (l : List Int) (a : Int) (h0 : 0 ≤ a) (ha : a ≤ 1048576) (hg : goodIntS l) : ∃ t, laws_szIntS.f l a = some t ∧ (t < 0 ∨ (0 ≤ t ∧ t + (l.length : Int) ≤ a)) := by
  have hl : l.length ≤ 9223372036854775807 := hg
  unfold laws_szIntS.f
  rw [wr_id (by omega) (by omega)]
  by_cases h : a - (l.length : Int) < 0
  · exact ⟨-1, by rw [if_pos h], .inl (by omega)⟩
  · exact ⟨_, by rw [if_neg h], .inr ⟨by omega, by omega⟩⟩
theorem toIntS_loop (x0 : List Int) : ∀ (r pre suf : List Int), x0 = pre ++ r → suf.length = r.length → x0.length ≤ 9223372036854775807 → Ev (fun k => laws_toIntS.l0 k x0 (pre ++ suf) (pre.length : Int)) x0 := by
  intro r
  induction r with
  | nil =>
    intro pre suf e hs hl
    obtain rfl : suf = [] := List.eq_nil_of_length_eq_zero hs
    subst e
    refine Ev.step (f := fun _ => some _) (fun k => ?_) (Ev.now _)
    simp only [laws_toIntS.l0]
    rw [if_neg (nlt_end pre)]
  | cons x r ih =>
    intro pre suf e hs hl
    match suf, hs with
    | y :: suf, hs =>
      subst e
      refine Ev.step (fun k => ?_) (ev_eq (ih (pre ++ [x]) suf (by simp) (by simpa using hs) hl) rfl)
      simp only [laws_toIntS.l0]
      rw [if_pos (lt_mid pre x r), if_pos (zle _), if_pos (lt_mid pre y suf), rd_mid, set_mid, wr_mid pre x r hl, app_mid pre x suf]
theorem toIntS_ev (l : List Int) (hl : l.length ≤ 1048576) : Ev (fun k => laws_toIntS.f k l) l := by
  unfold laws_toIntS.f
  simp only [if_pos (zle l.length), if_pos (show ((l.length : Int)).toNat ≤ 35184372088832 by omega)]
  exact toIntS_loop l l [] _ rfl (by simp) (by omega)
theorem markIntS_loop : ∀ (r pre : List Int) (a : Int), (pre ++ r).length ≤ 9223372036854775807 → Ev (fun k => laws_markIntS.l0 k (pre ++ r) a (pre.length : Int)) ((mkS r a).1, pre ++ (mkS r a).2) := by
  intro r
  induction r with
  | nil =>
    intro pre a hl
    refine Ev.step (f := fun _ => some _) (fun k => ?_) (Ev.now _)
    simp only [laws_markIntS.l0]
    rw [if_neg (nlt_end pre)]
    rfl
  | cons x r ih =>
    intro pre a hl
    refine Ev.step (fun k => ?_) (ev_eq (ih (pre ++ [a]) (wrap64 (a + 1)) (by simpa using hl)) (by simp [mkS]))
    simp only [laws_markIntS.l0]
    rw [if_pos (lt_mid pre x r), if_pos (zle _), set_mid, wr_mid pre x r hl, app_mid pre (a) r]
    simp
theorem markIntS_ev (l : List Int) (a : Int) (hl : l.length ≤ 1048576) : Ev (fun k => laws_markIntS.f k l a) (mkS l a) := markIntS_loop l [] a (by simp; omega)
theorem eqIntS_loop : ∀ (r s pre qre : List Int), pre.length = qre.length → r.length = s.length → (pre ++ r).length ≤ 9223372036854775807 → Ev (fun k => laws_eqIntS.l0 k (pre ++ r) (qre ++ s) (pre.length : Int)) (decide (r = s)) := by
  intro r
  induction r with
  | nil =>
    intro s pre qre hp hs hl
    obtain rfl : s = [] := List.eq_nil_of_length_eq_zero hs.symm
    refine Ev.step (f := fun _ => some _) (fun k => ?_) (Ev.now _)
    simp only [laws_eqIntS.l0]
    rw [if_neg (nlt_end pre)]
    rfl
  | cons x r ih =>
    intro s pre qre hp hs hl
    match s, hs with
    | y :: s, hs =>
      by_cases e : x = y
      · subst e
        refine Ev.step (fun k => ?_) (ev_eq (ih s (pre ++ [x]) (qre ++ [x]) (by simp [hp]) (by simpa using hs) (by simpa using hl)) (by simp))
        simp only [laws_eqIntS.l0]
        rw [if_pos (lt_mid pre x r), if_pos (zle _), if_pos (by rw [hp]; exact lt_mid qre x s), rd_mid, hp, rd_mid, if_pos rfl, ← hp, wr_mid pre x r hl, app_mid pre x r, app_mid qre x s]
      · refine Ev.step (f := fun _ => some _) (fun k => ?_) (Ev.now _)
        simp only [laws_eqIntS.l0]
        rw [if_pos (lt_mid pre x r), if_pos (zle _), if_pos (by rw [hp]; exact lt_mid qre y s), rd_mid, hp, rd_mid, if_neg e]
        simp [e]
theorem eqIntS_ev (l s : List Int) (hl : l.length ≤ 1048576) : Ev (fun k => laws_eqIntS.f k l s) (decide (l = s)) := by
  unfold laws_eqIntS.f
  by_cases h : l.length = s.length
  · simp only [if_pos (show (l.length : Int) = (s.length : Int) by omega)]
    exact eqIntS_loop l s [] [] rfl h (by simp; omega)
  · simp only [if_neg (show ¬ (l.length : Int) = (s.length : Int) by omega)]
    refine ev_eq (Ev.now _) ?_
    have : l ≠ s := fun e => h (by rw [e])
    simp [this]
theorem eqBoolS_loop : ∀ (r s pre qre : List Bool), pre.length = qre.length → r.length = s.length → (pre ++ r).length ≤ 9223372036854775807 → Ev (fun k => laws_eqBoolS.l0 k (pre ++ r) (qre ++ s) (pre.length : Int)) (decide (r = s)) := by
  intro r
  induction r with
  | nil =>
    intro s pre qre hp hs hl
    obtain rfl : s = [] := List.eq_nil_of_length_eq_zero hs.symm
    refine Ev.step (f := fun _ => some _) (fun k => ?_) (Ev.now _)
    simp only [laws_eqBoolS.l0]
    rw [if_neg (nlt_end pre)]
    rfl
  | cons x r ih =>
    intro s pre qre hp hs hl
    match s, hs with
    | y :: s, hs =>
      by_cases e : x = y
      · subst e
        refine Ev.step (fun k => ?_) (ev_eq (ih s (pre ++ [x]) (qre ++ [x]) (by simp [hp]) (by simpa using hs) (by simpa using hl)) (by simp))
        simp only [laws_eqBoolS.l0]
        rw [if_pos (lt_mid pre x r), if_pos (zle _), if_pos (by rw [hp]; exact lt_mid qre x s), rdOf_mid, hp, rdOf_mid, if_neg (by simp), ← hp, wr_mid pre x r hl, app_mid pre x r, app_mid qre x s]
      · refine Ev.step (f := fun _ => some _) (fun k => ?_) (Ev.now _)
        simp only [laws_eqBoolS.l0]
        rw [if_pos (lt_mid pre x r), if_pos (zle _), if_pos (by rw [hp]; exact lt_mid qre y s), rdOf_mid, hp, rdOf_mid, if_pos (by simpa using e)]
        simp [e]
theorem eqBoolS_ev (l s : List Bool) (hl : l.length ≤ 1048576) : Ev (fun k => laws_eqBoolS.f k l s) (decide (l = s)) := by
  unfold laws_eqBoolS.f
  by_cases h : l.length = s.length
  · simp only [if_pos (show (l.length : Int) = (s.length : Int) by omega)]
    exact eqBoolS_loop l s [] [] rfl h (by simp; omega)
  · simp only [if_neg (show ¬ (l.length : Int) = (s.length : Int) by omega)]
    refine ev_eq (Ev.now _) ?_
    have : l ≠ s := fun e => h (by rw [e])
    simp [this]
theorem heldBoolS_loop : ∀ (r pre : List Bool) (a : Int), (pre ++ r).length ≤ 9223372036854775807 → Ev (fun k => laws_heldBoolS.l0 k (pre ++ (mkB r a).2) a (pre.length : Int)) (mkB r a).1 := by
  intro r
  induction r with
  | nil =>
    intro pre a hl
    refine Ev.step (f := fun _ => some a) (fun k => ?_) (Ev.now _)
    show laws_heldBoolS.l0 (k + 1) (pre ++ []) a (pre.length : Int) = some a
    simp only [laws_heldBoolS.l0]
    rw [if_neg (nlt_end pre)]
  | cons x r ih =>
    intro pre a hl
    refine Ev.step (fun k => ?_) (ev_eq (ih (pre ++ [Int.tmod a 3 == 0]) (wrap64 (a + 1)) (by simpa using hl)) (by simp [mkB]))
    show laws_heldBoolS.l0 (k + 1) (pre ++ (Int.tmod a 3 == 0) :: (mkB r (wrap64 (a + 1))).2) a (pre.length : Int) = _
    simp only [laws_heldBoolS.l0]
    rw [if_pos (lt_mid pre (Int.tmod a 3 == 0) _), if_pos (zle _), rdOf_mid, if_neg (by simp), wr_mid pre (Int.tmod a 3 == 0) _ (by simp [mkB_len] at hl ⊢; omega), app_mid pre (Int.tmod a 3 == 0)]
theorem heldBoolS_ev (l : List Bool) (a : Int) (h0 : 0 ≤ a) (ha : a + l.length ≤ 1000000000000000) (hl : l.length ≤ 1048576) : Ev (fun k => laws_heldBoolS.f k (mkB l a).2 a) (mkB l a).1 := heldBoolS_loop l [] a (by simp; omega)
theorem szParty_cases (f0 : List Int) (f1 : Int) (a : Int) (h0 : 0 ≤ a) (ha : a ≤ 1048576) (g0 : goodIntS f0) : ∃ t, laws_szParty.f f0 f1 a = some t ∧ (t < 0 ∨ (0 ≤ t ∧ t + (List.length f0 : Int) ≤ a)) := by
  unfold laws_szParty.f
  obtain ⟨t0, e0, hc⟩ := szIntS_cases f0 a h0 ha g0
  rcases hc with hc | ⟨b0, c0⟩
  · exact ⟨-1, by simp [e0, hc], .inl (by omega)⟩
  exact ⟨t0, by simp [e0, show ¬ t0 < 0 by omega], .inr ⟨b0, by omega⟩⟩
theorem toParty_ev (f0 : List Int) (f1 : Int) (h0 : List.length f0 ≤ 1048576) : Ev (fun k => laws_toParty.f k f0 f1) (f0, f1) := Ev.bind (toIntS_ev f0 h0) (Ev.now _)
theorem eqParty_ev (f0 : List Int) (f1 : Int) (s0 : List Int) (s1 : Int) (h0 : List.length f0 ≤ 1048576) : Ev (fun k => laws_eqParty.f k f0 f1 s0 s1) (decide ((f0, f1) = (s0, s1))) := by
  obtain ⟨K0, e0⟩ := eqIntS_ev f0 s0 h0
  refine ⟨K0, fun k hk => ?_⟩
  unfold laws_eqParty.f
  simp only [e0 k (by omega), Option.bind_some]
  by_cases q0 : f0 = s0 <;> try simp only [q0, decide_true, decide_false, if_true, if_false, Bool.false_eq_true, beq_self_eq_true]
  by_cases q1 : f1 = s1 <;> try simp only [q1, decide_true, decide_false, if_true, if_false, Bool.false_eq_true, beq_self_eq_true]
  all_goals simp_all
theorem markParty_ev (f0 : List Int) (f1 : Int) (a : Int) (h0 : List.length f0 ≤ 1048576) : Ev (fun k => laws_markParty.f k f0 f1 a) ((mkS f0 (a)).1, (mkS f0 (a)).2) := Ev.bind (markIntS_ev f0 (a) h0) (Ev.now _)
theorem eqState_ev (f0 : List Bool) (f1 : Bool) (s0 : List Bool) (s1 : Bool) (h0 : List.length f0 ≤ 1048576) : Ev (fun k => laws_eqState.f k f0 f1 s0 s1) (decide ((f0, f1) = (s0, s1))) := by
  obtain ⟨K0, e0⟩ := eqBoolS_ev f0 s0 h0
  refine ⟨K0, fun k hk => ?_⟩
  unfold laws_eqState.f
  simp only [e0 k (by omega), Option.bind_some]
  by_cases q0 : f0 = s0 <;> try simp only [q0, decide_true, decide_false, if_true, if_false, Bool.false_eq_true, beq_self_eq_true]
  by_cases q1 : f1 = s1 <;> try simp only [q1, decide_true, decide_false, if_true, if_false, Bool.false_eq_true, beq_self_eq_true]
  all_goals simp_all
end Go.Proofs.Ytihieplobgehaaa.Pure

namespace Go.Proofs.Ytihieplobgehaaa.Pure
open Go.RowKit Go.Proofs.Ytihieplobgehaaa.C1 Go.Proofs.Ytihieplobgehaaa.H Go.Proofs.YtihieplobgehaaaW.PrintWords Go.Proofs.YtihieplobgehaaaW.PrintLast Go.Proofs.YtihieplobgehaaaW.PrintMore
set_option linter.unusedVariables false
set_option linter.unusedSimpArgs false
theorem in_eq (a b c : Int) : impl_in.f a b c = some (inB b c a) := by
  unfold impl_in.f inB
  by_cases h : b ≤ a <;> simp [h]
theorem l1In_eq (a b c : Int) : spec_l1In.f a b c = some (inB b c a) := by
  unfold spec_l1In.f inB
  by_cases h : b ≤ a <;> simp [h]
theorem areIn_eq (l : List Int) (a b c d : Int) : impl_areIn.f l a b c d = some (inB c d (l.length : Int) && l.all (inB a b)) := rfl
theorem l1All_loop (a b : Int) : ∀ (r pre : List Int), (pre ++ r).length ≤ 9223372036854775807 → Ev (fun k => spec_l1All.l0 k a b (pre ++ r) ((pre ++ r).length : Int) (pre.length : Int)) (r.all (inB a b)) := by
  intro r
  induction r with
  | nil =>
    intro pre hl
    refine Ev.step (f := fun _ => some true) (fun k => ?_) (Ev.now _)
    simp only [spec_l1All.l0]
    rw [if_neg (nlt_end pre)]
  | cons x r ih =>
    intro pre hl
    cases hx : inB a b x with
    | true =>
      refine Ev.step (fun k => ?_) (ev_eq (ih (pre ++ [x]) (by simpa using hl)) (by simp [hx]))
      simp only [spec_l1All.l0]
      rw [if_pos (lt_mid pre x r), if_pos (zle _), if_pos (lt_mid pre x r), rd_mid, l1In_eq, hx, Option.bind_some, if_pos rfl, wr_mid pre x r hl, app_mid pre x r]
    | false =>
      refine Ev.step (f := fun _ => some false) (fun k => ?_) (ev_eq (Ev.now _) (by simp [hx]))
      simp only [spec_l1All.l0]
      rw [if_pos (lt_mid pre x r), if_pos (zle _), if_pos (lt_mid pre x r), rd_mid, l1In_eq, hx, Option.bind_some, if_neg (by simp)]
theorem l1All_ev (l : List Int) (a b : Int) (hl : l.length ≤ 9223372036854775807) : Ev (fun k => spec_l1All.f k l a b) (l.all (inB a b)) := l1All_loop a b l [] hl
end Go.Proofs.Ytihieplobgehaaa.Pure

namespace Go.Proofs.Ytihieplobgehaaa.Pure
open Go.RowKit Go.Proofs.Ytihieplobgehaaa.C1 Go.Proofs.Ytihieplobgehaaa.H Go.Proofs.YtihieplobgehaaaW.PrintWords Go.Proofs.YtihieplobgehaaaW.PrintLast Go.Proofs.YtihieplobgehaaaW.PrintMore
set_option linter.unusedVariables false
set_option linter.unusedSimpArgs false
end Go.Proofs.Ytihieplobgehaaa.Pure

namespace Go.Proofs.Ytihieplobgehaaa.Pure
open Go.RowKit Go.Proofs.Ytihieplobgehaaa.C1 Go.Proofs.Ytihieplobgehaaa.H Go.Proofs.YtihieplobgehaaaW.PrintWords Go.Proofs.YtihieplobgehaaaW.PrintLast Go.Proofs.YtihieplobgehaaaW.PrintMore
set_option linter.unusedVariables false
set_option linter.unusedSimpArgs false
def goodP (l : List Int) (s : Int) : Bool := inB 1 8 (l.length : Int) && l.all (inB 1 1000) && inB 1 3 s
theorem isParty_eq (l : List Int) (s : Int) : impl_IsParty.f l s = some (goodP l s) := by
  unfold impl_IsParty.f goodP
  rw [areIn_eq, in_eq]
  cases inB 1 8 (l.length : Int) <;> cases l.all (inB 1 1000) <;> cases inB 1 3 s <;> rfl
theorem paGood_ev (l : List Int) (s : Int) (hl : l.length ≤ 1048576) : Ev (fun k => spec_paGood.f k l s) (goodP l s) := by
  obtain ⟨K, e⟩ := l1All_ev l 1 1000 (by omega)
  refine ⟨K, fun k hk => ?_⟩
  unfold spec_paGood.f goodP
  simp only [l1In_eq, e k hk, Option.bind_some]
  cases inB 1 8 (l.length : Int) <;> cases l.all (inB 1 1000) <;> cases inB 1 3 s <;> rfl
def mv (v : Bool) : List Int → List Bool → List Bool
  | [], o => o
  | x :: r, o => mv v r (o.set x.toNat v)
theorem mv_len (v : Bool) (t : List Int) : ∀ o : List Bool, (mv v t o).length = o.length := by
  induction t with
  | nil => intro o; rfl
  | cons x r ih => intro o; simp only [mv]; rw [ih]; simp
theorem moved_loop (v : Bool) : ∀ (r pre : List Int) (o : List Bool), (pre ++ r).length ≤ 9223372036854775807 → (∀ x ∈ r, 0 ≤ x ∧ x < (o.length : Int)) → Ev (fun k => impl_State_moved.l0 k (pre ++ r) ((pre ++ r).length : Int) (pre.length : Int) o v) (mv v r o, v) := by
  intro r
  induction r with
  | nil =>
    intro pre o hl hi
    refine Ev.step (f := fun _ => some _) (fun k => ?_) (Ev.now _)
    simp only [impl_State_moved.l0]
    rw [if_neg (nlt_end pre)]
    rfl
  | cons x r ih =>
    intro pre o hl hi
    have hx := hi x (by simp)
    refine Ev.step (fun k => ?_) (ih (pre ++ [x]) (o.set x.toNat v) (by simpa using hl) (fun y hy => by have := hi y (by simp [hy]); simpa using this))
    simp only [impl_State_moved.l0]
    rw [if_pos (lt_mid pre x r), if_pos (zle _), if_pos (lt_mid pre x r), rd_mid, if_pos hx.1, if_pos hx.2, wr_mid pre x r hl, app_mid pre x r]
theorem moved_ev (st : List Bool) (b : Bool) (t : List Int) (hs : st.length ≤ 1048576) (ht : t.length ≤ 1048576) (hi : ∀ x ∈ t, 0 ≤ x ∧ x < (st.length : Int)) : Ev (fun k => impl_State_moved.f k st b t) (mv (!b) t st, !b) := by
  unfold impl_State_moved.f
  refine Ev.bind (a := st) (ev_some (by unfold slices_Clone_bool_bool.f; rw [if_pos (by omega)])) ?_
  exact moved_loop (!b) t [] st (by simp; omega) hi
theorem paCross_loop (st : List Bool) (b c : Bool) : ∀ (r pre : List Int) (o : List Bool), (pre ++ r).length ≤ 9223372036854775807 → (∀ x ∈ r, 0 ≤ x ∧ x < (st.length : Int)) → (∀ x ∈ r, rdOf false st x = b) → o.length = st.length → Ev (fun k => spec_paCross.l0 k (pre ++ r) ((pre ++ r).length : Int) (pre.length : Int) st b o c) (mv (!b) r o, c) := by
  intro r
  induction r with
  | nil =>
    intro pre o hl hi hb ho
    refine Ev.step (f := fun _ => some _) (fun k => ?_) (Ev.now _)
    simp only [spec_paCross.l0]
    rw [if_neg (nlt_end pre)]
    rfl
  | cons x r ih =>
    intro pre o hl hi hb ho
    have hx := hi x (by simp)
    have hbx := hb x (by simp)
    refine Ev.step (fun k => ?_) (ih (pre ++ [x]) (o.set x.toNat (!b)) (by simpa using hl) (fun y hy => hi y (by simp [hy])) (fun y hy => hb y (by simp [hy])) (by simpa using ho))
    simp only [spec_paCross.l0]
    rw [if_pos (lt_mid pre x r), if_pos (zle _), if_pos (lt_mid pre x r), rd_mid, if_pos hx.1, if_pos hx.2, if_pos (by rw [ho]; exact hx.2), hbx, wr_mid pre x r hl, app_mid pre x r]
theorem paCross_ev (st : List Bool) (b : Bool) (t : List Int) (hs : st.length ≤ 1048576) (ht : t.length ≤ 1048576) (hi : ∀ x ∈ t, 0 ≤ x ∧ x < (st.length : Int)) (hb : ∀ x ∈ t, rdOf false st x = b) : Ev (fun k => spec_paCross.f k st b t) (mv (!b) t st, !b) := by
  unfold spec_paCross.f
  simp only [Option.bind_some, List.nil_append, List.length_nil, Nat.zero_add, if_pos (show st.length < 140737488355328 by omega)]
  exact paCross_loop st b (!b) t [] st (by simp; omega) hi hb rfl
theorem indexB_loop (x : Bool) : ∀ (r pre : List Bool), (pre ++ r).length ≤ 1048576 → ∃ v, Ev (fun k => slices_Index_bool_bool.l0 k (pre ++ r) x ((pre ++ r).length : Int) (pre.length : Int)) v ∧ (decide (v ≥ 0) = r.any (fun y => x == y)) := by
  intro r
  induction r with
  | nil =>
    intro pre hl
    refine ⟨-1, Ev.step (f := fun _ => some _) (fun k => ?_) (Ev.now _), rfl⟩
    simp only [slices_Index_bool_bool.l0]
    rw [if_neg (nlt_end pre)]
  | cons y r ih =>
    intro pre hl
    by_cases c : (x == y) = true
    · refine ⟨(pre.length : Int), Ev.step (f := fun _ => some _) (fun k => ?_) (Ev.now _), by simp [c]⟩
      simp only [slices_Index_bool_bool.l0]
      rw [if_pos (lt_mid pre y r), if_pos (zle _), if_pos (lt_mid pre y r), rdOf_mid, if_pos c]
    · obtain ⟨v, hv, hd⟩ := ih (pre ++ [y]) (by simpa using hl)
      refine ⟨v, Ev.step (fun k => ?_) hv, by simp only [List.any_cons, c, Bool.false_or]; exact hd⟩
      simp only [slices_Index_bool_bool.l0]
      rw [if_pos (lt_mid pre y r), if_pos (zle _), if_pos (lt_mid pre y r), rdOf_mid, if_neg c, wr_mid pre y r (by omega), app_mid pre y r]
theorem containsB_ev (l : List Bool) (x : Bool) (hl : l.length ≤ 1048576) : Ev (fun k => slices_Contains_bool_bool.f k l x) (l.any fun y => x == y) := by
  obtain ⟨v, hv, hd⟩ := indexB_loop x l [] (by simpa using hl)
  unfold slices_Contains_bool_bool.f
  exact Ev.bind hv (ev_eq (Ev.now _) hd)
end Go.Proofs.Ytihieplobgehaaa.Pure

namespace Go.Proofs.Ytihieplobgehaaa.Pure
open Go.RowKit Go.Proofs.Ytihieplobgehaaa.C1 Go.Proofs.Ytihieplobgehaaa.H Go.Proofs.YtihieplobgehaaaW.PrintWords Go.Proofs.YtihieplobgehaaaW.PrintLast Go.Proofs.YtihieplobgehaaaW.PrintMore
set_option linter.unusedVariables false
set_option linter.unusedSimpArgs false
def mxs (l : List Int) : List Int → Int → Int
  | [], m => m
  | x :: r, m => mxs l r (max m (rd l x))
theorem slowest_loop (l : List Int) : ∀ (r pre : List Int) (m : Int), (pre ++ r).length ≤ 9223372036854775807 → (∀ x ∈ r, 0 ≤ x ∧ x < (l.length : Int)) → Ev (fun k => impl_slowest.l0 k l m (pre ++ r) ((pre ++ r).length : Int) (pre.length : Int)) (mxs l r m) := by
  intro r
  induction r with
  | nil =>
    intro pre m hl hi
    refine Ev.step (f := fun _ => some _) (fun k => ?_) (Ev.now _)
    simp only [impl_slowest.l0]
    rw [if_neg (nlt_end pre)]
    rfl
  | cons x r ih =>
    intro pre m hl hi
    have hx := hi x (by simp)
    refine Ev.step (fun k => ?_) (ih (pre ++ [x]) (max m (rd l x)) (by simpa using hl) (fun y hy => hi y (by simp [hy])))
    simp only [impl_slowest.l0]
    rw [if_pos (lt_mid pre x r), if_pos (zle _), if_pos (lt_mid pre x r), rd_mid, if_pos hx.1, if_pos hx.2, wr_mid pre x r hl, app_mid pre x r, show mx m (rd l x) = max m (rd l x) by unfold mx; split <;> omega]
theorem slowest_ev (l t : List Int) (ht : t.length ≤ 1048576) (hi : ∀ x ∈ t, 0 ≤ x ∧ x < (l.length : Int)) : Ev (fun k => impl_slowest.f k l t) (mxs l t 0) := slowest_loop l t [] 0 (by simp; omega) hi
end Go.Proofs.Ytihieplobgehaaa.Pure

namespace Go.Proofs.Ytihieplobgehaaa.Pure
open Go.RowKit Go.Proofs.Ytihieplobgehaaa.C1 Go.Proofs.Ytihieplobgehaaa.H Go.Proofs.YtihieplobgehaaaW.PrintWords Go.Proofs.YtihieplobgehaaaW.PrintLast Go.Proofs.YtihieplobgehaaaW.PrintMore
set_option linter.unusedVariables false
set_option linter.unusedSimpArgs false
def stateP (n : Nat) (st : List Bool) (b : Bool) : Bool := decide (st.length = n) && st.any fun y => b == y
theorem paState_loop (b : Bool) (a : List Bool) : ∀ (r pre : List Bool), (pre ++ r).length ≤ 1048576 → Ev (fun k => spec_paState.l0 k (pre ++ r) ((pre ++ r).length : Int) (pre.length : Int) a b) (r.any fun y => b == y) := by
  intro r
  induction r with
  | nil =>
    intro pre hl
    refine Ev.step (f := fun _ => some false) (fun k => ?_) (Ev.now _)
    simp only [spec_paState.l0]
    rw [if_neg (nlt_end pre)]
  | cons x r ih =>
    intro pre hl
    by_cases c : x = b
    · refine Ev.step (f := fun _ => some true) (fun k => ?_) (ev_eq (Ev.now _) (by simp [c]))
      simp only [spec_paState.l0]
      rw [if_pos (lt_mid pre x r), if_pos (zle _), if_pos (lt_mid pre x r), rdOf_mid, if_pos (by simp [c])]
    · refine Ev.step (fun k => ?_) (ev_eq (ih (pre ++ [x]) (by simpa using hl)) (by simp [show ¬ b = x from fun e => c e.symm]))
      simp only [spec_paState.l0]
      rw [if_pos (lt_mid pre x r), if_pos (zle _), if_pos (lt_mid pre x r), rdOf_mid, if_neg (by simpa using c), wr_mid pre x r (by omega), app_mid pre x r]
theorem paState_ev (l : List Int) (s : Int) (st : List Bool) (b : Bool) (hs : st.length ≤ 1048576) : Ev (fun k => spec_paState.f k l s st b) (stateP l.length st b) := by
  unfold spec_paState.f stateP
  by_cases c : st.length = l.length
  · simp only [if_pos (show (st.length : Int) = (l.length : Int) by omega), decide_eq_true c, Bool.true_and]
    exact paState_loop b st st [] (by simpa using hs)
  · simp only [if_neg (show ¬ (st.length : Int) = (l.length : Int) by omega), decide_eq_false c, Bool.false_and]
    exact Ev.now _
theorem isStateOf_ev (n : Nat) (st : List Bool) (b : Bool) (hs : st.length ≤ 1048576) : Ev (fun k => impl_isStateOf.f k (n : Int) st b) (stateP n st b) := by
  unfold impl_isStateOf.f stateP
  by_cases c : st.length = n
  · simp only [if_pos (show (st.length : Int) = (n : Int) by omega), decide_eq_true c, Bool.true_and]
    exact Ev.bind (containsB_ev st b hs) (Ev.now _)
  · simp only [if_neg (show ¬ (st.length : Int) = (n : Int) by omega), decide_eq_false c, Bool.false_and]
    exact Ev.now _
end Go.Proofs.Ytihieplobgehaaa.Pure

namespace Go.Proofs.Ytihieplobgehaaa.Pure
open Go.RowKit Go.Proofs.Ytihieplobgehaaa.C1 Go.Proofs.Ytihieplobgehaaa.H Go.Proofs.YtihieplobgehaaaW.PrintWords Go.Proofs.YtihieplobgehaaaW.PrintLast Go.Proofs.YtihieplobgehaaaW.PrintMore
set_option linter.unusedVariables false
set_option linter.unusedSimpArgs false
def sideP (b : Bool) : List Bool → Nat → List Int
  | [], _ => []
  | x :: r, i => if x == b then (i : Int) :: sideP b r (i + 1) else sideP b r (i + 1)
theorem sideP_len (b : Bool) : ∀ (r : List Bool) (i : Nat), (sideP b r i).length ≤ r.length := by
  intro r
  induction r with
  | nil => intro i; simp [sideP]
  | cons x r ih =>
    intro i
    have := ih (i + 1)
    simp only [sideP]
    split <;> simp only [List.length_cons] <;> omega
theorem side_loop (b : Bool) : ∀ (r pre : List Bool) (acc : List Int), (pre ++ r).length ≤ 1048576 → acc.length + r.length ≤ 1048576 → Ev (fun k => impl_State_side.l0 k b acc (pre ++ r) ((pre ++ r).length : Int) (pre.length : Int)) (acc ++ sideP b r pre.length) := by
  intro r
  induction r with
  | nil =>
    intro pre acc hl ha
    refine Ev.step (f := fun _ => some _) (fun k => ?_) (Ev.now _)
    simp only [impl_State_side.l0]
    rw [if_neg (nlt_end pre)]
    simp [sideP]
  | cons x r ih =>
    intro pre acc hl ha
    simp only [List.length_cons] at ha
    cases hx : x == b with
    | true =>
      refine Ev.step (fun k => ?_) (ev_eq (ih (pre ++ [x]) (acc ++ [(pre.length : Int)]) (by simpa using hl) (by simp; omega)) (by simp [sideP, hx]))
      simp only [impl_State_side.l0]
      rw [if_pos (lt_mid pre x r), if_pos (zle _), if_pos (lt_mid pre x r), rdOf_mid, hx, if_pos rfl, if_pos (by omega), wr_mid pre x r (by omega), app_mid pre x r]
    | false =>
      refine Ev.step (fun k => ?_) (ev_eq (ih (pre ++ [x]) acc (by simpa using hl) (by omega)) (by simp [sideP, hx]))
      simp only [impl_State_side.l0]
      rw [if_pos (lt_mid pre x r), if_pos (zle _), if_pos (lt_mid pre x r), rdOf_mid, hx, if_neg (by simp), wr_mid pre x r (by omega), app_mid pre x r]
theorem side_ev (st : List Bool) (t b : Bool) (hs : st.length ≤ 1048576) : Ev (fun k => impl_State_side.f k st t b) (sideP b st 0) := side_loop b st [] [] (by simpa using hs) (by simpa using hs)
def begP : List Int → List (List Int)
  | [] => []
  | x :: l => [x :: l]
theorem begP_len (l : List Int) : (begP l).length ≤ 1 := by cases l <;> simp [begP]
theorem l1Own_eq (l : List Int) (h : l.length ≤ 1048576) : spec_l1Own.f l = some l := by
  unfold spec_l1Own.f
  rw [Option.bind_some, if_pos (by simp; omega)]
  simp
theorem grp_loop (lo : Nat) (m : Int) (ps : List Int) (hp : ps.length ≤ 20) (l : List Int) (hl : l.length ≤ 20) (hm : (l.length : Int) < m)
    (IH : ∀ (from_ : Nat) (l' : List Int), lo < from_ → from_ ≤ ps.length → l'.length = l.length + 1 → Ev (fun k => spec_paGroups.f k ps l' (from_ : Int) m) (begP l' ++ grpsF m (ps.drop from_) l')) :
    ∀ (d i : Nat) (acc : List (List Int)), ps.length - i = d → i ≤ ps.length → lo ≤ i → acc.length + 2 ^ d ≤ 4194304 → Ev (fun k => spec_paGroups.l0 k ps l m acc (i : Int)) (acc ++ grpsF m (ps.drop i) l) := by
  intro d
  induction d with
  | zero =>
    intro i acc hd hi hlo ha
    have : i = ps.length := by omega
    subst this
    refine Ev.step (f := fun _ => some _) (fun k => ?_) (Ev.now _)
    simp only [spec_paGroups.l0]
    rw [if_neg (by omega)]
    simp [grpsF]
  | succ d ih =>
    intro i acc hd hi hlo ha
    have hlt : i < ps.length := by omega
    have hdr : ps.drop i = rd ps (i : Nat) :: ps.drop (i + 1) := by
      rw [List.drop_eq_getElem_cons hlt]
      simp [rd, List.getD_eq_getElem?_getD, List.getElem?_eq_getElem hlt]
    have hg := IH (i + 1) (l ++ [rd ps (i : Nat)]) (by omega) (by omega) (by simp)
    have hlen : (begP (l ++ [rd ps (i : Nat)]) ++ grpsF m (ps.drop (i + 1)) (l ++ [rd ps (i : Nat)])).length ≤ 2 ^ d := by
      have h1 := grpsF_len m (ps.drop (i + 1)) (l ++ [rd ps (i : Nat)])
      have h2 := begP_len (l ++ [rd ps (i : Nat)])
      rw [List.length_drop, show ps.length - (i + 1) = d by omega] at h1
      rw [List.length_append]
      omega
    rw [Nat.pow_succ] at ha
    have hb : begP (l ++ [rd ps (i : Nat)]) = [l ++ [rd ps (i : Nat)]] := by cases l <;> rfl
    have he : acc ++ grpsF m (ps.drop i) l = (acc ++ (begP (l ++ [rd ps (i : Nat)]) ++ grpsF m (ps.drop (i + 1)) (l ++ [rd ps (i : Nat)]))) ++ grpsF m (ps.drop (i + 1)) l := by
      rw [hdr, grpsF, if_pos hm, hb]
      simp
    rw [he]
    refine Ev.step (f := fun k => (spec_paGroups.f k ps (l ++ [rd ps (i : Nat)]) ((i + 1 : Nat) : Int) m).bind fun t => (if acc.length + t.length < 5864062014805 then (spec_paGroups.l0 k ps l m (acc ++ t) ((i + 1 : Nat) : Int)) else (none))) (fun k => ?_) (Ev.bind hg ?_)
    · simp only [spec_paGroups.l0]
      rw [if_pos (by omega), show spec_l1Own.f l = some l from l1Own_eq l (by omega), Option.bind_some, if_pos (zle _), Option.bind_some, if_pos (by simp; omega), show wrap64 ((i : Int) + 1) = ((i + 1 : Nat) : Int) from wr_id (by omega) (by omega)]
    · try dsimp only
      have hc : acc.length + (begP (l ++ [rd ps (i : Nat)]) ++ grpsF m (ps.drop (i + 1)) (l ++ [rd ps (i : Nat)])).length < 5864062014805 := by
        have : 0 < 2 ^ d := Nat.pow_pos (by omega)
        omega
      simp only [if_pos hc]
      exact ih (i + 1) _ (by omega) (by omega) (by omega) (by rw [List.length_append]; omega)
theorem paGroups_ev (m : Int) (ps : List Int) (hp : ps.length ≤ 20) : ∀ (d from_ : Nat) (l : List Int), ps.length - from_ = d → from_ ≤ ps.length → l.length + d ≤ 20 → (l.length : Int) ≤ m → Ev (fun k => spec_paGroups.f k ps l (from_ : Int) m) (begP l ++ grpsF m (ps.drop from_) l) := by
  intro d
  induction d using Nat.strongRecOn with
  | ind d ih =>
  intro from_ l hd hf hl hm
  have hj : ∀ acc : List (List Int), acc.length ≤ 1 → Ev (fun k => spec_paGroups.j0 k ps l (from_ : Int) m acc) (acc ++ grpsF m (ps.drop from_) l) := by
    intro acc ha
    by_cases hc : (l.length : Int) = m
    · refine Ev.step (f := fun _ => some acc) (fun k => ?_) (ev_eq (Ev.now _) ?_)
      · simp only [spec_paGroups.j0]
        rw [if_pos hc]
      · cases ps.drop from_ with
        | nil => simp [grpsF]
        | cons x r => rw [grpsF, if_neg (by omega)]; simp
    · refine Ev.step (f := fun k => spec_paGroups.l0 k ps l m acc (from_ : Int)) (fun k => ?_) ?_
      · simp only [spec_paGroups.j0]
        rw [if_neg hc]
      · refine grp_loop from_ m ps hp l (by omega) (by omega) (fun f' l' h0 h1 h2 => ?_) d from_ acc hd hf (Nat.le_refl _) ?_
        · exact ih (ps.length - f') (by omega) f' l' rfl h1 (by omega) (by omega)
        · have : 2 ^ d ≤ 2 ^ 20 := Nat.pow_le_pow_right (by omega) (by omega)
          omega
  cases l with
  | nil =>
    refine Ev.step (f := fun k => spec_paGroups.j0 k ps [] (from_ : Int) m []) (fun k => ?_) (hj [] (by simp))
    simp [spec_paGroups.f]
  | cons x l =>
    refine Ev.step (f := fun k => spec_paGroups.j0 k ps (x :: l) (from_ : Int) m [x :: l]) (fun k => ?_) (hj [x :: l] (by simp))
    simp only [spec_paGroups.f]
    rw [if_pos (by simp only [List.length_cons]; omega), show spec_l1Own.f (x :: l) = some (x :: l) from l1Own_eq _ (by omega), Option.bind_some, Option.bind_some, if_pos (by simp)]
    simp
def tripsP (s : Int) (st : List Bool) (b : Bool) : List (List Int) := grpsF s (sideP b st 0) []
theorem paTrips_loop (s : Int) (st : List Bool) (b : Bool) (y0 : List Int) (z0 : List Bool) (hs1 : 1 ≤ s) : ∀ (r pre : List Bool) (acc : List Int), (pre ++ r).length ≤ 1048576 → acc.length + r.length ≤ 20 → Ev (fun k => spec_paTrips.l0 k acc (pre ++ r) ((pre ++ r).length : Int) (pre.length : Int) y0 s z0 b) (grpsF s (acc ++ sideP b r pre.length) []) := by
  intro r
  induction r with
  | nil =>
    intro pre acc hl ha
    simp only [List.length_nil, Nat.add_zero] at ha
    have hg := paGroups_ev s acc ha acc.length 0 [] (by omega) (by omega) (by simpa using ha) (by simp; omega)
    refine Ev.step (f := fun k => (spec_paGroups.f k acc ([] : List Int) ((0 : Nat) : Int) s).bind fun t => some t) (fun k => ?_) (ev_eq (Ev.bind hg (Ev.now _)) (by simp [begP, sideP]))
    simp only [spec_paTrips.l0]
    rw [if_neg (nlt_end pre)]
    rfl
  | cons x r ih =>
    intro pre acc hl ha
    simp only [List.length_cons] at ha
    cases hx : x == b with
    | true =>
      refine Ev.step (fun k => ?_) (ev_eq (ih (pre ++ [x]) (acc ++ [(pre.length : Int)]) (by simpa using hl) (by simp; omega)) (by simp [sideP, hx]))
      simp only [spec_paTrips.l0]
      rw [if_pos (lt_mid pre x r), if_pos (zle _), if_pos (lt_mid pre x r), rdOf_mid, hx, if_pos rfl, if_pos (by omega), wr_mid pre x r (by omega), app_mid pre x r]
    | false =>
      refine Ev.step (fun k => ?_) (ev_eq (ih (pre ++ [x]) acc (by simpa using hl) (by omega)) (by simp [sideP, hx]))
      simp only [spec_paTrips.l0]
      rw [if_pos (lt_mid pre x r), if_pos (zle _), if_pos (lt_mid pre x r), rdOf_mid, hx, if_neg (by simp), wr_mid pre x r (by omega), app_mid pre x r]
theorem paTrips_ev (l : List Int) (s : Int) (st : List Bool) (b : Bool) (hs1 : 1 ≤ s) (hs : st.length ≤ 20) : Ev (fun k => spec_paTrips.f k l s st b) (tripsP s st b) := paTrips_loop s st b l st hs1 st [] [] (by simp; omega) (by simpa using hs)
end Go.Proofs.Ytihieplobgehaaa.Pure

namespace Go.Proofs.Ytihieplobgehaaa.Pure
open Go.RowKit Go.Proofs.Ytihieplobgehaaa.C1 Go.Proofs.Ytihieplobgehaaa.H Go.Proofs.YtihieplobgehaaaW.PrintWords Go.Proofs.YtihieplobgehaaaW.PrintLast Go.Proofs.YtihieplobgehaaaW.PrintMore
set_option linter.unusedVariables false
set_option linter.unusedSimpArgs false
def allB : Nat → List (List Bool)
  | 0 => [[]]
  | n + 1 => (allB n).flatMap fun l => [false :: l, true :: l]
theorem mem_allB : ∀ l : List Bool, l ∈ allB l.length := by
  intro l
  induction l with
  | nil => simp [allB]
  | cons x l ih =>
    simp only [List.length_cons, allB, List.mem_flatMap]
    exact ⟨l, ih, by cases x <;> simp⟩
def bitI (b : Bool) : Int := if b then 1 else 0
def enI : List Bool → Bool → Int
  | [], t => bitI t
  | x :: r, t => 2 * enI r t + bitI x
def dcI (n : Nat) (u : Int) : List Bool × Bool := ((List.range n).map (fun k => u / 2 ^ k % 2 == 1), u / 2 ^ n % 2 == 1)
def enS (ov : List Bool) (t : Bool) : Int := ov.foldl (fun a x => 2 * a + bitI x) (bitI t)
def dcS (n : Nat) (u : Int) : List Bool × Bool := ((List.range n).map (fun k => u / 2 ^ (n - 1 - k) % 2 == 1), u / 2 ^ n % 2 == 1)
set_option maxRecDepth 100000 in
theorem chk_en : ((List.range 9).all fun n => (allB n).all fun ov => [false, true].all fun t => decide (0 ≤ enI ov t ∧ enI ov t < 2 ^ (n + 1) ∧ dcI n (enI ov t) = (ov, t) ∧ 0 ≤ enS ov t ∧ enS ov t < 2 ^ (n + 1) ∧ dcS n (enS ov t) = (ov, t))) = true := by decide +kernel
set_option maxRecDepth 100000 in
theorem chk_dc : ((List.range 9).all fun n => (List.range (2 ^ (n + 1))).all fun u => decide ((dcI n (u : Int)).1.length = n ∧ enI (dcI n (u : Int)).1 (dcI n (u : Int)).2 = (u : Int) ∧ (dcS n (u : Int)).1.length = n ∧ enS (dcS n (u : Int)).1 (dcS n (u : Int)).2 = (u : Int))) = true := by decide +kernel
theorem en_facts {n : Nat} (hn : n ≤ 8) (ov : List Bool) (t : Bool) (hl : ov.length = n) : 0 ≤ enI ov t ∧ enI ov t < 2 ^ (n + 1) ∧ dcI n (enI ov t) = (ov, t) ∧ 0 ≤ enS ov t ∧ enS ov t < 2 ^ (n + 1) ∧ dcS n (enS ov t) = (ov, t) := by
  have h := List.all_eq_true.1 chk_en n (List.mem_range.2 (by omega))
  have h := List.all_eq_true.1 h ov (by rw [← hl]; exact mem_allB ov)
  exact of_decide_eq_true (List.all_eq_true.1 h t (by cases t <;> simp))
theorem dc_facts {n : Nat} (hn : n ≤ 8) (u : Int) (h0 : 0 ≤ u) (h1 : u < 2 ^ (n + 1)) : (dcI n u).1.length = n ∧ enI (dcI n u).1 (dcI n u).2 = u ∧ (dcS n u).1.length = n ∧ enS (dcS n u).1 (dcS n u).2 = u := by
  have h := List.all_eq_true.1 chk_dc n (List.mem_range.2 (by omega))
  have e : ((u.toNat : Nat) : Int) = u := Int.toNat_of_nonneg h0
  have hu : u.toNat < 2 ^ (n + 1) := by
    have : ((2 ^ (n + 1) : Nat) : Int) = 2 ^ (n + 1) := by simp
    omega
  have h := of_decide_eq_true (List.all_eq_true.1 h u.toNat (List.mem_range.2 hu))
  rwa [e] at h
set_option maxRecDepth 100000 in
theorem chk_code : ((List.range 9).all fun n => (allB n).all fun ov => [false, true].all fun t => decide (impl_State_code.f 20 ov t = some (enI ov t))) = true := by decide +kernel
theorem code_ev {n : Nat} (hn : n ≤ 8) (ov : List Bool) (t : Bool) (hl : ov.length = n) : Ev (fun k => impl_State_code.f k ov t) (enI ov t) := by
  have h := List.all_eq_true.1 chk_code n (List.mem_range.2 (by omega))
  have h := List.all_eq_true.1 h ov (by rw [← hl]; exact mem_allB ov)
  exact Ev.of (fun k => impl_State_code.mono _ _ _) (of_decide_eq_true (List.all_eq_true.1 h t (by cases t <;> simp)))
set_option maxRecDepth 100000 in
theorem chk_stateOf : ((List.range 9).all fun n => (List.range (2 ^ (n + 1))).all fun u => decide (impl_stateOf.f 20 (n : Int) (u : Int) = some (dcI n (u : Int)))) = true := by decide +kernel
theorem stateOf_ev {n : Nat} (hn : n ≤ 8) (u : Int) (h0 : 0 ≤ u) (h1 : u < 2 ^ (n + 1)) : Ev (fun k => impl_stateOf.f k (n : Int) u) (dcI n u) := by
  have h := List.all_eq_true.1 chk_stateOf n (List.mem_range.2 (by omega))
  have e : ((u.toNat : Nat) : Int) = u := Int.toNat_of_nonneg h0
  have hu : u.toNat < 2 ^ (n + 1) := by
    have : ((2 ^ (n + 1) : Nat) : Int) = 2 ^ (n + 1) := by simp
    omega
  have h := of_decide_eq_true (List.all_eq_true.1 h u.toNat (List.mem_range.2 hu))
  rw [e] at h
  exact Ev.of (fun k => impl_stateOf.mono _ _ _) h
set_option maxRecDepth 100000 in
theorem chk_seIndex : ((List.range 9).all fun n => (allB n).all fun ov => [false, true].all fun t => decide (spec_seIndex.f 20 ov t = some (enS ov t))) = true := by decide +kernel
theorem seIndex_ev {n : Nat} (hn : n ≤ 8) (ov : List Bool) (t : Bool) (hl : ov.length = n) : Ev (fun k => spec_seIndex.f k ov t) (enS ov t) := by
  have h := List.all_eq_true.1 chk_seIndex n (List.mem_range.2 (by omega))
  have h := List.all_eq_true.1 h ov (by rw [← hl]; exact mem_allB ov)
  exact Ev.of (fun k => spec_seIndex.mono _ _ _) (of_decide_eq_true (List.all_eq_true.1 h t (by cases t <;> simp)))
set_option maxRecDepth 100000 in
theorem chk_seState : ((List.range 9).all fun n => (List.range (2 ^ (n + 1))).all fun u => decide (spec_seState.f 20 (u : Int) (n : Int) = some (dcS n (u : Int)))) = true := by decide +kernel
theorem seState_ev {n : Nat} (hn : n ≤ 8) (u : Int) (h0 : 0 ≤ u) (h1 : u < 2 ^ (n + 1)) : Ev (fun k => spec_seState.f k u (n : Int)) (dcS n u) := by
  have h := List.all_eq_true.1 chk_seState n (List.mem_range.2 (by omega))
  have e : ((u.toNat : Nat) : Int) = u := Int.toNat_of_nonneg h0
  have hu : u.toNat < 2 ^ (n + 1) := by
    have : ((2 ^ (n + 1) : Nat) : Int) = 2 ^ (n + 1) := by simp
    omega
  have h := of_decide_eq_true (List.all_eq_true.1 h u.toNat (List.mem_range.2 hu))
  rw [e] at h
  exact Ev.of (fun k => spec_seState.mono _ _ _) h
end Go.Proofs.Ytihieplobgehaaa.Pure

namespace Go.Proofs.Ytihieplobgehaaa.Pure
open Go.RowKit Go.Proofs.Ytihieplobgehaaa.C1 Go.Proofs.Ytihieplobgehaaa.H Go.Proofs.YtihieplobgehaaaW.PrintWords Go.Proofs.YtihieplobgehaaaW.PrintLast Go.Proofs.YtihieplobgehaaaW.PrintMore
set_option linter.unusedVariables false
set_option linter.unusedSimpArgs false
theorem way_rel {E E' : Int → Int → Nat → Prop} {S S' : Int → Prop} (R : Int → Int → Prop) (hs : ∀ s, S s → ∃ s', S' s' ∧ R s s') (he : ∀ u u' v c, R u u' → E u v c → ∃ v', E' u' v' c ∧ R v v') {v : Int} {n : Nat} (h : H.Way E S v n) : ∃ v', R v v' ∧ H.Way E' S' v' n := by
  induction h with
  | here h => obtain ⟨s', h1, h2⟩ := hs _ h; exact ⟨s', h2, H.Way.here h1⟩
  | on hu h ih =>
    obtain ⟨u', h1, h2⟩ := ih
    obtain ⟨v', h3, h4⟩ := he _ _ _ _ h1 h
    exact ⟨v', h4, H.Way.on h2 h3⟩
theorem grpsF_mem (m : Int) : ∀ (r l g : List Int), g ∈ grpsF m r l ↔ ∃ t, t ≠ [] ∧ t.Sublist r ∧ g = l ++ t ∧ ((l.length + t.length : Nat) : Int) ≤ m := by
  intro r
  induction r with
  | nil =>
    intro l g
    simp only [grpsF, List.not_mem_nil, false_iff]
    rintro ⟨t, h1, h2, _⟩
    exact h1 (List.eq_nil_of_sublist_nil h2)
  | cons x r ih =>
    intro l g
    simp only [grpsF]
    split
    · rename_i hl
      simp only [List.mem_cons, List.mem_append, ih]
      constructor
      · rintro (rfl | ⟨t, h1, h2, rfl, h3⟩ | ⟨t, h1, h2, rfl, h3⟩)
        · exact ⟨[x], by simp, by simp, rfl, by simp; omega⟩
        · exact ⟨x :: t, by simp, h2.cons_cons x, by simp, by simp only [List.length_append, List.length_cons, List.length_nil] at h3 ⊢; omega⟩
        · exact ⟨t, h1, h2.cons x, rfl, h3⟩
      · rintro ⟨t, h1, h2, rfl, h3⟩
        cases h2 with
        | cons _ h2 => exact .inr (.inr ⟨t, h1, h2, rfl, h3⟩)
        | @cons_cons t' _ _ h2 =>
          by_cases ht : t' = []
          · subst ht; exact .inl rfl
          · exact .inr (.inl ⟨t', ht, h2, by simp, by simp only [List.length_append, List.length_cons, List.length_nil] at h3 ⊢; omega⟩)
    · rename_i hl
      simp only [List.not_mem_nil, false_iff]
      rintro ⟨t, h1, h2, rfl, h3⟩
      have : 0 < t.length := List.length_pos_iff.2 h1
      omega
theorem sideP_mem (b : Bool) : ∀ (r : List Bool) (i : Nat) (x : Int), x ∈ sideP b r i ↔ ∃ j : Nat, x = ((i + j : Nat) : Int) ∧ r[j]? = some b := by
  intro r
  induction r with
  | nil => intro i x; simp [sideP]
  | cons y r ih =>
    intro i x
    have hiff : (∃ j : Nat, x = ((i + j : Nat) : Int) ∧ (y :: r)[j]? = some b) ↔ (x = (i : Int) ∧ y = b) ∨ ∃ j : Nat, x = ((i + 1 + j : Nat) : Int) ∧ r[j]? = some b := by
      constructor
      · rintro ⟨j, h1, h2⟩
        cases j with
        | zero => exact .inl ⟨by simpa using h1, by simpa using h2⟩
        | succ j => exact .inr ⟨j, by rw [h1]; congr 1; omega, by simpa using h2⟩
      · rintro (⟨h1, h2⟩ | ⟨j, h1, h2⟩)
        · exact ⟨0, by simpa using h1, by simpa using h2⟩
        · exact ⟨j + 1, by rw [h1]; congr 1; omega, by simpa using h2⟩
    rw [hiff, ← ih (i + 1) x]
    simp only [sideP]
    by_cases hy : y = b
    · rw [if_pos (by simpa using hy), List.mem_cons]
      simp [hy]
    · rw [if_neg (by simpa using hy)]
      simp [hy]
theorem sideP_asc (b : Bool) : ∀ (r : List Bool) (i : Nat), (sideP b r i).Pairwise (· < ·) := by
  intro r
  induction r with
  | nil => intro i; simp [sideP]
  | cons y r ih =>
    intro i
    simp only [sideP]
    split
    · refine List.pairwise_cons.2 ⟨fun x hx => ?_, ih _⟩
      obtain ⟨j, rfl, _⟩ := (sideP_mem b r (i + 1) x).1 hx
      omega
    · exact ih _
theorem sub_asc : ∀ (L t : List Int), L.Pairwise (· < ·) → t.Pairwise (· < ·) → (∀ x ∈ t, x ∈ L) → t.Sublist L := by
  intro L
  induction L with
  | nil =>
    intro t _ _ h
    cases t with
    | nil => exact List.Sublist.refl _
    | cons x t => exact absurd (h x (by simp)) (by simp)
  | cons y L ih =>
    intro t hL ht h
    cases t with
    | nil => exact List.nil_sublist _
    | cons x t =>
      rw [List.pairwise_cons] at hL ht
      by_cases e : x = y
      · subst e
        refine (ih t hL.2 ht.2 fun z hz => ?_).cons_cons x
        rcases List.mem_cons.1 (h z (by simp [hz])) with rfl | q
        · exact absurd (ht.1 z hz) (by omega)
        · exact q
      · have hx : x ∈ L := by
          rcases List.mem_cons.1 (h x (by simp)) with q | q
          · exact absurd q e
          · exact q
        have hyx := hL.1 x hx
        refine (ih (x :: t) hL.2 (List.pairwise_cons.2 ht) fun z hz => ?_).cons y
        rcases List.mem_cons.1 (h z hz) with rfl | q
        · rcases List.mem_cons.1 hz with rfl | hz
          · exact absurd rfl e
          · have := ht.1 z hz; omega
        · exact q
theorem mv_get (v : Bool) : ∀ (t : List Int) (o : List Bool) (j : Nat), (∀ x ∈ t, 0 ≤ x ∧ x < (o.length : Int)) → (mv v t o)[j]? = if (j : Int) ∈ t then some v else o[j]? := by
  intro t
  induction t with
  | nil => intro o j _; simp [mv]
  | cons x t ih =>
    intro o j h
    have hx := h x (by simp)
    simp only [mv]
    rw [ih (o.set x.toNat v) j (fun y hy => by simpa using h y (by simp [hy])), List.getElem?_set]
    by_cases h1 : (j : Int) ∈ t
    · rw [if_pos h1, if_pos (by simp [h1])]
    · rw [if_neg h1]
      by_cases h2 : x.toNat = j
      · rw [if_pos h2, if_pos (by omega), if_pos (by simp; left; omega)]
      · rw [if_neg h2, if_neg (by simp only [List.mem_cons, not_or]; exact ⟨by omega, h1⟩)]
theorem tripsP_mem {m : Int} {ov : List Bool} {tr : Bool} {t : List Int} : t ∈ tripsP m ov tr ↔ t ≠ [] ∧ (t.length : Int) ≤ m ∧ t.Pairwise (· < ·) ∧ ∀ x ∈ t, ∃ j : Nat, x = (j : Int) ∧ ov[j]? = some tr := by
  unfold tripsP
  rw [grpsF_mem]
  constructor
  · rintro ⟨t', h1, h2, e, h3⟩
    have e : t = t' := e
    subst e
    refine ⟨h1, by simpa using h3, (sideP_asc tr ov 0).sublist h2, fun x hx => ?_⟩
    obtain ⟨j, hj, h⟩ := (sideP_mem tr ov 0 x).1 (h2.subset hx)
    exact ⟨j, by simpa using hj, h⟩
  · rintro ⟨h1, h2, h3, h4⟩
    refine ⟨t, h1, sub_asc _ _ (sideP_asc tr ov 0) h3 (fun x hx => ?_), rfl, by simpa using h2⟩
    obtain ⟨j, rfl, h⟩ := h4 x hx
    exact (sideP_mem tr ov 0 _).2 ⟨j, by simp, h⟩
theorem trip_in {m : Int} {ov : List Bool} {tr : Bool} {t : List Int} (h : t ∈ tripsP m ov tr) : ∀ x ∈ t, 0 ≤ x ∧ x < (ov.length : Int) ∧ rdOf false ov x = tr := by
  intro x hx
  obtain ⟨j, rfl, hj⟩ := (tripsP_mem.1 h).2.2.2 x hx
  have := (List.getElem?_eq_some_iff.1 hj).1
  exact ⟨by omega, by omega, by simp [rdOf, List.getD_eq_getElem?_getD, hj]⟩
def cstP (timed : Bool) (l t : List Int) : Int := if timed = true then mxs l t 0 else 1
def EdgP (en : List Bool → Bool → Int) (timed : Bool) (l : List Int) (m : Int) (u v : Int) (c : Nat) : Prop := ∃ ov tr t, ov.length = l.length ∧ u = en ov tr ∧ t ∈ tripsP m ov tr ∧ v = en (mv (!tr) t ov) (!tr) ∧ (c : Int) = cstP timed l t
theorem rd_in (l : List Int) (x : Int) (h0 : 0 ≤ x) (h1 : x < (l.length : Int)) : rd l x ∈ l := by
  have : x.toNat < l.length := by omega
  simp [rd, List.getD_eq_getElem?_getD, List.getElem?_eq_getElem this]
theorem mxs_le (l : List Int) (B : Int) : ∀ (t : List Int) (k : Int), k ≤ B → (∀ x ∈ t, rd l x ≤ B) → mxs l t k ≤ B ∧ k ≤ mxs l t k ∧ ∀ x ∈ t, rd l x ≤ mxs l t k := by
  intro t
  induction t with
  | nil => intro k hk _; exact ⟨hk, Int.le_refl _, by simp⟩
  | cons x t ih =>
    intro k hk h
    have hx := h x (by simp)
    obtain ⟨h1, h2, h3⟩ := ih (max k (rd l x)) (by omega) (fun y hy => h y (by simp [hy]))
    simp only [mxs]
    refine ⟨h1, by omega, fun y hy => ?_⟩
    rcases List.mem_cons.1 hy with rfl | hy
    · omega
    · exact h3 y hy
theorem goodP_times {l : List Int} {m : Int} (h : goodP l m = true) : 1 ≤ l.length ∧ l.length ≤ 8 ∧ (∀ x ∈ l, 1 ≤ x ∧ x ≤ 1000) ∧ 1 ≤ m ∧ m ≤ 3 := by
  simp only [goodP, inB, Bool.and_eq_true, decide_eq_true_eq, List.all_eq_true] at h
  exact ⟨by omega, by omega, fun x hx => by have := h.1.2 x hx; omega, by omega, by omega⟩
theorem cst_bound {l : List Int} {m : Int} (h : goodP l m = true) (timed : Bool) {ov : List Bool} {tr : Bool} {t : List Int} (hl : ov.length = l.length) (ht : t ∈ tripsP m ov tr) : 1 ≤ cstP timed l t ∧ cstP timed l t ≤ 1000 := by
  obtain ⟨_, _, hx, _⟩ := goodP_times h
  have hi := trip_in ht
  have h1 := (tripsP_mem.1 ht).1
  unfold cstP
  split
  · have hb : ∀ x ∈ t, 1 ≤ rd l x ∧ rd l x ≤ 1000 := fun x hxt => hx _ (rd_in l x (hi x hxt).1 (by rw [← hl]; exact (hi x hxt).2.1))
    obtain ⟨q1, q2, q3⟩ := mxs_le l 1000 t 0 (by omega) (fun x hxt => (hb x hxt).2)
    cases t with
    | nil => exact absurd rfl h1
    | cons x t => have := q3 x (by simp); have := hb x (by simp); omega
  · omega
def rIS (n : Nat) (u u' : Int) : Prop := ∃ ov tr, ov.length = n ∧ u = enS ov tr ∧ u' = enI ov tr
theorem enS_inj {n : Nat} (hn : n ≤ 8) {ov ov' : List Bool} {tr tr' : Bool} (h : ov.length = n) (h' : ov'.length = n) (e : enS ov tr = enS ov' tr') : ov = ov' ∧ tr = tr' := by
  have h1 := (en_facts hn ov tr h).2.2.2.2.2
  have h2 := (en_facts hn ov' tr' h').2.2.2.2.2
  rw [e, h2] at h1
  exact ⟨(Prod.mk.inj h1).1.symm, (Prod.mk.inj h1).2.symm⟩
theorem enI_inj {n : Nat} (hn : n ≤ 8) {ov ov' : List Bool} {tr tr' : Bool} (h : ov.length = n) (h' : ov'.length = n) (e : enI ov tr = enI ov' tr') : ov = ov' ∧ tr = tr' := by
  have h1 := (en_facts hn ov tr h).2.2.1
  have h2 := (en_facts hn ov' tr' h').2.2.1
  rw [e, h2] at h1
  exact ⟨(Prod.mk.inj h1).1.symm, (Prod.mk.inj h1).2.symm⟩
theorem way_IS {l : List Int} {m : Int} (h : goodP l m = true) (timed : Bool) (ov ov' : List Bool) (tr tr' : Bool) (hl : ov.length = l.length) (hl' : ov'.length = l.length) (k : Nat) :
    H.Way (EdgP enS timed l m) (fun v => v = enS ov tr) (enS ov' tr') k ↔ H.Way (EdgP enI timed l m) (fun v => v = enI ov tr) (enI ov' tr') k := by
  have hn := (goodP_times h).2.1
  constructor
  · intro hw
    obtain ⟨v', ⟨o, b, ho, e, rfl⟩, hw'⟩ := way_rel (E' := EdgP enI timed l m) (S' := fun v => v = enI ov tr) (rIS l.length) (fun s hs => ⟨enI ov tr, rfl, ov, tr, hl, hs, rfl⟩) (by
      rintro u u' v c ⟨o, b, ho, rfl, rfl⟩ ⟨o2, b2, t, ho2, e, ht, rfl, hc⟩
      obtain ⟨rfl, rfl⟩ := enS_inj hn ho ho2 e
      exact ⟨_, ⟨o, b, t, ho, rfl, ht, rfl, hc⟩, _, _, by rw [mv_len]; exact ho, rfl, rfl⟩) hw
    obtain ⟨rfl, rfl⟩ := enS_inj hn hl' ho e
    exact hw'
  · intro hw
    obtain ⟨v', ⟨o, b, ho, rfl, e⟩, hw'⟩ := way_rel (E' := EdgP enS timed l m) (S' := fun v => v = enS ov tr) (fun u' u => rIS l.length u u') (fun s hs => ⟨enS ov tr, rfl, ov, tr, hl, rfl, hs⟩) (by
      rintro u' u v c ⟨o, b, ho, rfl, rfl⟩ ⟨o2, b2, t, ho2, e, ht, rfl, hc⟩
      obtain ⟨rfl, rfl⟩ := enI_inj hn ho ho2 e
      exact ⟨_, ⟨o, b, t, ho, rfl, ht, rfl, hc⟩, _, _, by rw [mv_len]; exact ho, rfl, rfl⟩) hw
    obtain ⟨rfl, rfl⟩ := enI_inj hn hl' ho e
    exact hw'
end Go.Proofs.Ytihieplobgehaaa.Pure

namespace Go.Proofs.Ytihieplobgehaaa.Pure
open Go.RowKit Go.Proofs.Ytihieplobgehaaa.C1 Go.Proofs.Ytihieplobgehaaa.H Go.Proofs.YtihieplobgehaaaW.PrintWords Go.Proofs.YtihieplobgehaaaW.PrintLast Go.Proofs.YtihieplobgehaaaW.PrintMore
set_option linter.unusedVariables false
set_option linter.unusedSimpArgs false
def timeP (l : List Int) : List Int → Int → Int
  | [], m => m
  | x :: r, m => timeP l r (if m > rd l x then m else rd l x)
theorem paTime_loop (l : List Int) (s : Int) : ∀ (r pre : List Int) (m : Int), (pre ++ r).length ≤ 9223372036854775807 → (∀ x ∈ r, 0 ≤ x ∧ x < (l.length : Int)) → Ev (fun k => spec_paTime.l0 k m (pre ++ r) ((pre ++ r).length : Int) (pre.length : Int) l s) (timeP l r m) := by
  intro r
  induction r with
  | nil =>
    intro pre m hl hi
    refine Ev.step (f := fun _ => some _) (fun k => ?_) (Ev.now _)
    simp only [spec_paTime.l0]
    rw [if_neg (nlt_end pre)]
    rfl
  | cons x r ih =>
    intro pre m hl hi
    have hx := hi x (by simp)
    refine Ev.step (fun k => ?_) (ih (pre ++ [x]) (if m > rd l x then m else rd l x) (by simpa using hl) (fun y hy => hi y (by simp [hy])))
    simp only [spec_paTime.l0]
    rw [if_pos (lt_mid pre x r), if_pos (zle _), if_pos (lt_mid pre x r), rd_mid, if_pos hx.1, if_pos hx.2, show spec_l1Most.f m (rd l x) = some (if m > rd l x then m else rd l x) by unfold spec_l1Most.f; split <;> rfl, Option.bind_some, wr_mid pre x r hl, app_mid pre x r]
end Go.Proofs.Ytihieplobgehaaa.Pure

namespace Go.Proofs.Ytihieplobgehaaa.Pure
open Go.RowKit Go.Proofs.Ytihieplobgehaaa.C1 Go.Proofs.Ytihieplobgehaaa.H Go.Proofs.YtihieplobgehaaaW.PrintWords Go.Proofs.YtihieplobgehaaaW.PrintLast Go.Proofs.YtihieplobgehaaaW.PrintMore
set_option linter.unusedVariables false
set_option linter.unusedSimpArgs false
theorem DInv_congr {E : Int → Int → Nat → Prop} {S : Int → Prop} {n : Nat} {far : List Int} {dn dn' : Int → Bool} (h : DInv E S n far dn) (hb : Bounded E S n) (he : ∀ v, 0 ≤ v → v < (n : Int) → dn v = dn' v) : DInv E S n far dn' :=
  ⟨h.len, h.range, fun v h0 h1 hd => h.pos v h0 h1 ((he v h0 h1).trans hd), fun v h0 h1 hd => h.least v h0 h1 ((he v h0 h1).trans hd), fun v h0 h1 hd u u0 u1 hu => h.order v h0 h1 ((he v h0 h1).trans hd) u u0 u1 ((he u u0 u1).trans hu), fun u h0 h1 hd => h.edges u h0 h1 ((he u h0 h1).trans hd), h.start⟩
def selP (far : List Int) (dl : List Bool) : Nat → Int → Int → Int
  | 0, _, a => a
  | r + 1, i, a => selP far dl r (i + 1) (if rdOf false dl i = true then a else if 0 ≤ rd far i then (if a < 0 then i else if rd far i < rd far a then i else a) else a)
theorem selP_ok (far : List Int) (dl : List Bool) (N : Int) : ∀ (r : Nat) (i a : Int), 0 ≤ i → i + r = N → (a = -1 ∨ 0 ≤ a ∧ a < N ∧ rdOf false dl a = false ∧ 0 ≤ rd far a) → (∀ u, 0 ≤ u → u < i → rdOf false dl u = false → 0 ≤ rd far u → 0 ≤ a ∧ rd far a ≤ rd far u) →
    (selP far dl r i a = -1 ∨ 0 ≤ selP far dl r i a ∧ selP far dl r i a < N ∧ rdOf false dl (selP far dl r i a) = false ∧ 0 ≤ rd far (selP far dl r i a)) ∧ ∀ u, 0 ≤ u → u < N → rdOf false dl u = false → 0 ≤ rd far u → 0 ≤ selP far dl r i a ∧ rd far (selP far dl r i a) ≤ rd far u := by
  intro r
  induction r with
  | zero => intro i a _ hi ha h; exact ⟨ha, fun u u0 u1 => h u u0 (by omega)⟩
  | succ r ih =>
    intro i a h0 hi ha h
    simp only [selP]
    apply ih (i + 1) _ (by omega) (by omega)
    · cases hd : rdOf false dl i with
      | true => simpa using ha
      | false =>
        simp only [Bool.false_eq_true, if_false]
        by_cases hf : 0 ≤ rd far i
        · rw [if_pos hf]
          split
          · exact .inr ⟨h0, by omega, hd, hf⟩
          · split
            · exact .inr ⟨h0, by omega, hd, hf⟩
            · exact ha
        · rw [if_neg hf]; exact ha
    · intro u u0 u1 hu hfu
      by_cases e : u = i
      · subst e
        rw [if_neg (by rw [hu]; decide), if_pos hfu]
        split
        · exact ⟨u0, Int.le_refl _⟩
        · split
          · exact ⟨u0, Int.le_refl _⟩
          · exact ⟨by omega, by omega⟩
      · have hh := h u u0 (by omega) hu hfu
        cases hd : rdOf false dl i with
        | true => simpa using hh
        | false =>
          simp only [Bool.false_eq_true, if_false]
          split
          · split
            · omega
            · split
              · exact ⟨h0, by omega⟩
              · exact hh
          · exact hh
theorem dk_keep (b : Int) (n : Nat) (B : Int) (a : Int) (a0 : 0 ≤ a) (a1 : a < (n : Int)) (hb0 : 0 ≤ b) : ∀ (L : List (Int × Int)) (far : List Int), far.length = n → (∀ e ∈ L, 0 ≤ e.1 ∧ e.1 < (n : Int) ∧ 1 ≤ e.2 ∧ b + e.2 ≤ B) → rd far a = b → (∀ v, 0 ≤ v → v < (n : Int) → rd far v ≤ B) →
    (dkRelax b L far).length = n ∧ rd (dkRelax b L far) a = b ∧ ∀ v, 0 ≤ v → v < (n : Int) → rd (dkRelax b L far) v ≤ B := by
  intro L
  induction L with
  | nil => intro far hl _ ha h; exact ⟨hl, ha, h⟩
  | cons e L ih =>
    intro far hl hL ha h
    obtain ⟨e0, e1, e2, e3⟩ := hL e (by simp)
    have hs := fun v (hv : 0 ≤ v) => rd_set far e.1 v (b + e.2) e0 (by omega) hv
    simp only [dkRelax]
    split
    · rename_i hc
      refine ih _ (by simpa using hl) (fun x hx => hL x (by simp [hx])) ?_ (fun v v0 v1 => ?_)
      · rw [hs a a0, if_neg (by rintro rfl; omega)]; exact ha
      · rw [hs v v0]
        split
        · exact e3
        · exact h v v0 v1
    · exact ih far hl (fun x hx => hL x (by simp [hx])) ha h
theorem timeP_mxs (l : List Int) : ∀ (r : List Int) (m : Int), timeP l r m = mxs l r m := by
  intro r
  induction r with
  | nil => intro m; rfl
  | cons x r ih => intro m; simp only [timeP, mxs]; rw [ih]; congr 1; split <;> omega
section
variable {l : List Int} {m : Int}
def ndS (l : List Int) (m : Int) (ov : List Bool) (tr : Bool) : List (Int × Int) := (tripsP m ov tr).map fun t => (enS (mv (!tr) t ov) (!tr), mxs l t 0)
theorem far_l3 (h : goodP l m = true) (N : Nat) (hN : (N : Int) = 2 ^ (l.length + 1)) (a b B : Int) (a0 : 0 ≤ a) (a1 : a < (N : Int)) (hb0 : 0 ≤ b) (hB : b + 1000 ≤ B) (hB2 : B ≤ 1000000000) (dl : List Bool) (ov : List Bool) (tr : Bool) (hl : ov.length = l.length) (R : List Int) (ts : List (List Int)) (hts : ts.length ≤ 1048576) (hti : ∀ t ∈ ts, t ∈ tripsP m ov tr) :
    ∀ (r pre : List (List Int)) (far : List Int), ts = pre ++ r → far.length = N → rd far a = b → (∀ v, 0 ≤ v → v < (N : Int) → rd far v ≤ B) →
      Ev (fun k => spec_seFar.l1 k (dkRelax b (r.map fun t => (enS (mv (!tr) t ov) (!tr), mxs l t 0)) far) dl l m) R →
      Ev (fun k => spec_seFar.l3 k far dl a ts (ts.length : Int) (pre.length : Int) l m ov tr) R := by
  obtain ⟨_, hn, hx, hm⟩ := goodP_times h
  intro r
  induction r with
  | nil =>
    intro pre far e hl' ha hf hc
    subst e
    refine Ev.step (fun k => spec_seFar.l3.eq_2 ..) ?_
    simp only [if_neg (nlt_end pre)]
    exact hc
  | cons t r ih =>
    intro pre far e hl' ha hf hc
    have ht := hti t (by rw [e]; simp)
    have hi := trip_in ht
    have htl : t.length ≤ 1048576 := by have := (tripsP_mem.1 ht).2.1; omega
    have hen := en_facts hn (mv (!tr) t ov) (!tr) (by rw [mv_len]; exact hl)
    have hcb := cst_bound h true hl ht
    simp only [cstP, if_true] at hcb
    subst e
    refine Ev.step (fun k => spec_seFar.l3.eq_2 ..) ?_
    have hrd : rd_L2 (pre ++ t :: r) (pre.length : Int) = t := rdOf_mid [] pre t r
    rw [hrd, wr_mid pre t r (by omega)]
    simp only [if_pos (lt_mid pre t r), if_pos (zle pre.length), if_pos a0, if_pos (show a < (far.length : Int) by omega)]
    refine Ev.bind (paCross_ev ov tr t (by omega) htl (fun x hx => ⟨(hi x hx).1, (hi x hx).2.1⟩) (fun x hx => (hi x hx).2.2)) ?_
    dsimp only
    refine Ev.bind (seIndex_ev hn (mv (!tr) t ov) (!tr) (by rw [mv_len]; exact hl)) ?_
    have htm : Ev (fun k => spec_paTime.f k l m t) (mxs l t 0) := by
      rw [← timeP_mxs]
      exact paTime_loop l m t [] 0 (by simp; omega) (fun x hx => ⟨(hi x hx).1, by rw [← hl]; exact (hi x hx).2.1⟩)
    refine Ev.bind htm ?_
    rw [ha, wr_id (a := b + mxs l t 0) (by omega) (by omega)]
    generalize hv : enS (mv (!tr) t ov) (!tr) = v at hen hc ⊢
    simp only [if_pos hen.2.2.2.1, if_pos (show v < (far.length : Int) by omega)]
    have hs := fun u (hu : 0 ≤ u) => rd_set far v u (b + mxs l t 0) hen.2.2.2.1 (by omega) hu
    simp only [List.map_cons, hv, dkRelax] at hc
    have hset : ∀ (u : Int), 0 ≤ u → u < (N : Int) → rd (far.set v.toNat (b + mxs l t 0)) u ≤ B := fun u u0 u1 => by
      rw [hs u u0]
      split
      · omega
      · exact hf u u0 u1
    by_cases h1 : rd far v < 0
    · rw [if_pos (.inl h1)] at hc
      simp only [if_pos h1]
      rw [show ((pre ++ [t]).length : Int) = ((pre ++ [t]).length : Int) from rfl]
      refine ih (pre ++ [t]) _ (by simp) (by simpa using hl') ?_ hset hc
      rw [hs a a0, if_neg (by rintro rfl; omega)]; exact ha
    · simp only [if_neg h1]
      by_cases h2 : b + mxs l t 0 < rd far v
      · rw [if_pos (.inr h2)] at hc
        simp only [if_pos h2]
        refine ih (pre ++ [t]) _ (by simp) (by simpa using hl') ?_ hset hc
        rw [hs a a0, if_neg (by rintro rfl; omega)]; exact ha
      · rw [if_neg (by omega)] at hc
        simp only [if_neg h2]
        exact ih (pre ++ [t]) far (by simp) hl' ha hf hc
theorem far_l2 (N : Nat) (hN2 : N ≤ 1000) (far : List Int) (dl : List Bool) (hl : far.length = N) (hd : dl.length = N) (R : List Int) : ∀ (r : Nat) (i : Nat) (a : Int), i + r = N → (a = -1 ∨ 0 ≤ a ∧ a < (N : Int)) →
    Ev (fun k => if selP far dl r (i : Int) a < 0 then (some far) else (if 0 ≤ selP far dl r (i : Int) a then (if selP far dl r (i : Int) a < (dl.length : Int) then ((spec_seState.f k (selP far dl r (i : Int) a) (l.length : Int)).bind fun bt204 => ((spec_paTrips.f k l m bt204.1 bt204.2).bind fun t209 => (spec_seFar.l3 k far (dl.set (selP far dl r (i : Int) a).toNat true) (selP far dl r (i : Int) a) t209 (t209.length : Int) 0 l m bt204.1 bt204.2))) else (none)) else (none))) R →
    Ev (fun k => spec_seFar.l2 k far dl a far (N : Int) (i : Int) l m) R := by
  intro r
  induction r with
  | zero =>
    intro i a hi ha h
    refine Ev.step (fun k => spec_seFar.l2.eq_2 ..) ?_
    simp only [if_neg (show ¬ (i : Int) < (N : Int) by omega)]
    exact h
  | succ r ih =>
    intro i a hi ha h
    refine Ev.step (fun k => spec_seFar.l2.eq_2 ..) ?_
    rw [wr_id (a := (i : Int) + 1) (by omega) (by omega)]
    simp only [if_pos (show (i : Int) < (N : Int) by omega), if_pos (zle i), if_pos (show (i : Int) < (far.length : Int) by omega), if_pos (show (i : Int) < (dl.length : Int) by omega)]
    simp only [selP] at h
    have go := ih (i + 1)
    rw [show ((i + 1 : Nat) : Int) = (i : Int) + 1 by omega] at go
    cases hdn : rdOf false dl (i : Int) with
    | true =>
      simp only [hdn, if_true] at h ⊢
      exact go a (by omega) ha h
    | false =>
      simp only [hdn, Bool.false_eq_true, if_false] at h ⊢
      by_cases hf : 0 ≤ rd far (i : Int)
      · simp only [if_pos hf] at h
        simp only [if_pos (show rd far (i : Int) ≥ 0 from hf)]
        by_cases ha0 : a < 0
        · simp only [if_pos ha0] at h ⊢
          exact go i (by omega) (.inr ⟨by omega, by omega⟩) h
        · simp only [if_neg ha0] at h ⊢
          simp only [if_pos (show 0 ≤ a by omega), if_pos (show a < (far.length : Int) by omega)]
          by_cases hlt : rd far (i : Int) < rd far a
          · simp only [if_pos hlt] at h ⊢
            exact go i (by omega) (.inr ⟨by omega, by omega⟩) h
          · simp only [if_neg hlt] at h ⊢
            exact go a (by omega) ha h
      · simp only [if_neg hf] at h
        simp only [if_neg (show ¬ rd far (i : Int) ≥ 0 from hf)]
        exact go a (by omega) ha h
theorem edgP_bounded (h : goodP l m = true) (N : Nat) (hN : (N : Int) = 2 ^ (l.length + 1)) (s : Int) (hs : 0 ≤ s ∧ s < (N : Int)) : Bounded (EdgP enS true l m) (fun v => v = s) N := by
  have hn := (goodP_times h).2.1
  refine ⟨?_, fun v hv => by subst hv; exact hs⟩
  rintro u v c ⟨ov, tr, t, hl, rfl, ht, rfl, hc⟩
  have h1 := en_facts hn ov tr hl
  have h2 := en_facts hn (mv (!tr) t ov) (!tr) (by rw [mv_len]; exact hl)
  have h3 := cst_bound h true hl ht
  omega
theorem ndS_iff (h : goodP l m = true) (ov : List Bool) (tr : Bool) (hl : ov.length = l.length) (v : Int) (c : Nat) : EdgP enS true l m (enS ov tr) v c ↔ (v, (c : Int)) ∈ ndS l m ov tr := by
  have hn := (goodP_times h).2.1
  unfold ndS
  rw [List.mem_map]
  constructor
  · rintro ⟨ov', tr', t, hl', e, ht, rfl, hc⟩
    obtain ⟨rfl, rfl⟩ := enS_inj hn hl hl' e
    refine ⟨t, ht, ?_⟩
    rw [hc]
    rfl
  · rintro ⟨t, ht, e⟩
    obtain ⟨e1, e2⟩ := Prod.mk.inj e
    exact ⟨ov, tr, t, hl, rfl, ht, e1.symm, e2.symm⟩
theorem cnt_true_set : ∀ (dl : List Bool) (a : Nat), a < dl.length → rdOf false dl (a : Int) = false → (dl.set a true).countP (fun x => !x) + 1 = dl.countP (fun x => !x) := by
  intro dl
  induction dl with
  | nil => intro a h; simp at h
  | cons x dl ih =>
    intro a h hx
    cases a with
    | zero =>
      have : x = false := by simpa [rdOf] using hx
      subst this
      simp [List.countP_cons]
    | succ a =>
      have := ih a (by simpa using h) (by simpa [rdOf] using hx)
      simp only [List.set_cons_succ, List.countP_cons]
      omega
theorem rdB_set (dl : List Bool) (a v : Int) (a0 : 0 ≤ a) (a1 : a < (dl.length : Int)) (v0 : 0 ≤ v) : rdOf false (dl.set a.toNat true) v = (decide (v = a) || rdOf false dl v) := by
  unfold rdOf
  rw [List.getD_eq_getElem?_getD, List.getD_eq_getElem?_getD, List.getElem?_set]
  by_cases e : v = a
  · subst e
    rw [if_pos rfl, if_pos (by omega)]
    simp
  · rw [if_neg (by omega), decide_eq_false e, Bool.false_or]
theorem far_l1 (h : goodP l m = true) (N : Nat) (hN : (N : Int) = 2 ^ (l.length + 1)) (hN2 : N ≤ 512) (s : Int) (hs : 0 ≤ s ∧ s < (N : Int)) :
    ∀ (g : Nat) (far : List Int) (dl : List Bool), dl.countP (fun x => !x) ≤ g → g ≤ 512 → dl.length = N → DInv (EdgP enS true l m) (fun v => v = s) N far (fun v => rdOf false dl v) → (∀ v, 0 ≤ v → v < (N : Int) → rd far v ≤ 1000 * (512 - (g : Int))) →
      ∃ far', Ev (fun k => spec_seFar.l1 k far dl l m) far' ∧ far'.length = N ∧ (∀ v, 0 ≤ v → v < (N : Int) → rd far' v ≤ 1000 * 512) ∧ ∀ v, 0 ≤ v → v < (N : Int) → IsLeast (H.Way (EdgP enS true l m) (fun v => v = s) v) (rd far' v) := by
  have hB := edgP_bounded h N hN s hs
  obtain ⟨hn1, hn, hx, hm1, hm3⟩ := goodP_times h
  intro g
  induction g with
  | zero =>
    intro far dl hg hg2 hdl hI hle
    have hall : ∀ v, 0 ≤ v → v < (N : Int) → rdOf false dl v = true := by
      intro v v0 v1
      have : dl.countP (fun x => !x) = 0 := by omega
      rw [List.countP_eq_zero] at this
      have hv : v.toNat < dl.length := by omega
      have := this (dl[v.toNat]) (List.getElem_mem hv)
      simpa [rdOf, List.getD_eq_getElem?_getD, List.getElem?_eq_getElem hv] using this
    obtain ⟨s1, s2⟩ := selP_ok far dl (N : Int) N 0 (-1) (by omega) (by omega) (.inl rfl) (fun u u0 u1 => by omega)
    have hsel : selP far dl N 0 (-1) = -1 := by
      rcases s1 with q | ⟨q0, q1, q2, _⟩
      · exact q
      · rw [hall _ q0 q1] at q2; cases q2
    refine ⟨far, ?_, hI.len, fun v v0 v1 => by have := hle v v0 v1; omega, hI.fin hB (fun v v0 v1 hd => by rw [hall v v0 v1] at hd; cases hd)⟩
    refine Ev.step (fun k => spec_seFar.l1.eq_2 ..) ?_
    rw [hI.len]
    refine far_l2 N (by omega) far dl hI.len hdl far N 0 (-1) (by omega) (.inl rfl) ?_
    rw [show ((0 : Nat) : Int) = 0 from rfl, hsel]
    simp only [if_pos (show (-1 : Int) < 0 by omega)]
    exact Ev.now _
  | succ g ih =>
    intro far dl hg hg2 hdl hI hle
    obtain ⟨s1, s2⟩ := selP_ok far dl (N : Int) N 0 (-1) (by omega) (by omega) (.inl rfl) (fun u u0 u1 => by omega)
    rcases s1 with hsel | ⟨a0, a1, a2, a3⟩
    · refine ⟨far, ?_, hI.len, fun v v0 v1 => by have := hle v v0 v1; omega, hI.fin hB (fun v v0 v1 hd => ?_)⟩
      · refine Ev.step (fun k => spec_seFar.l1.eq_2 ..) ?_
        rw [hI.len]
        refine far_l2 N (by omega) far dl hI.len hdl far N 0 (-1) (by omega) (.inl rfl) ?_
        rw [show ((0 : Nat) : Int) = 0 from rfl, hsel]
        simp only [if_pos (show (-1 : Int) < 0 by omega)]
        exact Ev.now _
      · by_cases hf : 0 ≤ rd far v
        · have := (s2 v v0 v1 hd hf).1; omega
        · omega
    · generalize hsel : selP far dl N 0 (-1) = a at a0 a1 a2 a3 s2
      obtain ⟨q1, q2, q3, q4⟩ := dc_facts hn a a0 (by rw [← hN]; exact a1)
      have hst := seState_ev hn a a0 (by rw [← hN]; exact a1)
      obtain ⟨ov, tr, hds⟩ : ∃ ov tr, dcS l.length a = (ov, tr) := ⟨_, _, rfl⟩
      rw [hds] at q3 q4 hst
      dsimp only at q3 q4
      subst q4
      have hlt := hle _ a0 a1
      have hL2 : ∀ e ∈ ndS l m ov tr, 0 ≤ e.1 ∧ e.1 < (N : Int) ∧ 1 ≤ e.2 ∧ e.2 ≤ 1000 := by
        intro e he
        unfold ndS at he
        obtain ⟨t, ht, rfl⟩ := List.mem_map.1 he
        have h2 := en_facts hn (mv (!tr) t ov) (!tr) (by rw [mv_len]; exact q3)
        have h3 := cst_bound h true q3 ht
        simp only [cstP, if_true] at h3
        exact ⟨h2.2.2.2.1, by rw [hN]; exact h2.2.2.2.2.1, h3.1, h3.2⟩
      have hstep := hI.step hB a0 a1 a2 a3 (fun u u0 u1 hu hf => (s2 u u0 u1 hu hf).2) (ndS l m ov tr) (fun v c => ndS_iff h ov tr q3 v c) (fun e he => by have := hL2 e he; omega)
      obtain ⟨k1, k2, k3⟩ := dk_keep (rd far (enS ov tr)) N (1000 * (512 - (g : Int))) (enS ov tr) a0 a1 a3 (ndS l m ov tr) far hI.len (fun e he => by have := hL2 e he; omega) rfl (fun v v0 v1 => by have := hle v v0 v1; omega)
      have hI' := DInv_congr (dn' := fun v => rdOf false (dl.set (enS ov tr).toNat true) v) hstep hB (fun v v0 v1 => (rdB_set dl (enS ov tr) v a0 (by omega) v0).symm)
      have hcnt := cnt_true_set dl (enS ov tr).toNat (by omega) (by rw [Int.toNat_of_nonneg a0]; exact a2)
      obtain ⟨far', e1, e2, e3, e4⟩ := ih _ (dl.set (enS ov tr).toNat true) (by omega) (by omega) (by simpa using hdl) hI' k3
      refine ⟨far', ?_, e2, e3, e4⟩
      refine Ev.step (fun k => spec_seFar.l1.eq_2 ..) ?_
      rw [hI.len]
      refine far_l2 N (by omega) far dl hI.len hdl far' N 0 (-1) (by omega) (.inl rfl) ?_
      rw [show ((0 : Nat) : Int) = 0 from rfl, hsel]
      simp only [if_neg (show ¬ enS ov tr < 0 by omega), if_pos a0, if_pos (show enS ov tr < (dl.length : Int) by omega)]
      refine Ev.bind hst ?_
      dsimp only
      refine Ev.bind (paTrips_ev l m ov tr hm1 (by omega)) ?_
      have hgl := grpsF_len m (sideP tr ov 0) []
      have hsl := sideP_len tr ov 0
      have hpw : 2 ^ (sideP tr ov 0).length ≤ 2 ^ 8 := Nat.pow_le_pow_right (by omega) (by omega)
      refine far_l3 h N hN (enS ov tr) (rd far (enS ov tr)) (1000 * (512 - (g : Int))) a0 a1 a3 (by omega) (by omega) (dl.set (enS ov tr).toNat true) ov tr q3 far' (tripsP m ov tr) (by unfold tripsP; omega) (fun t ht => ht) (tripsP m ov tr) [] far rfl hI.len rfl (fun v v0 v1 => by have := hle v v0 v1; omega) ?_
      exact e1
end
end Go.Proofs.Ytihieplobgehaaa.Pure

namespace Go.Proofs.Ytihieplobgehaaa.Pure
open Go.RowKit Go.Proofs.Ytihieplobgehaaa.C1 Go.Proofs.Ytihieplobgehaaa.H Go.Proofs.YtihieplobgehaaaW.PrintWords Go.Proofs.YtihieplobgehaaaW.PrintLast Go.Proofs.YtihieplobgehaaaW.PrintMore
set_option linter.unusedVariables false
set_option linter.unusedSimpArgs false
theorem shl2 {n : Nat} (h : n ≤ 8) : shl .i64 2 (n : Int) = ((2 ^ (n + 1) : Nat) : Int) := by
  have : n = 0 ∨ n = 1 ∨ n = 2 ∨ n = 3 ∨ n = 4 ∨ n = 5 ∨ n = 6 ∨ n = 7 ∨ n = 8 := by omega
  rcases this with rfl | rfl | rfl | rfl | rfl | rfl | rfl | rfl | rfl <;> decide +kernel
theorem pow_nat (n : Nat) : ((2 ^ (n + 1) : Nat) : Int) = 2 ^ (n + 1) := by simp
theorem paFirst_eq (l : List Int) (m : Int) (hl : l.length ≤ 1048576) : spec_paFirst.f l m = some (List.replicate l.length false, false) := by
  unfold spec_paFirst.f
  rw [if_pos (zle _), if_pos (show ((l.length : Int)).toNat ≤ 281474976710656 by omega), Int.toNat_natCast]
section
variable {l : List Int} {m : Int}
theorem far_fill (fo : List Bool) (ft : Bool) (dl : List Bool) (R : List Int) : ∀ (n : Nat) (pre : List Int), (∀ v ∈ pre, v = -1) → pre.length + n ≤ 1000 → Ev (fun k => (spec_seIndex.f k fo ft).bind fun t198 => (if 0 ≤ t198 then (if t198 < ((List.replicate (pre.length + n) (-1 : Int)).length : Int) then (spec_seFar.l1 k ((List.replicate (pre.length + n) (-1 : Int)).set (t198 : Int).toNat 0) dl l m) else (none)) else (none))) R →
    Ev (fun k => spec_seFar.l0 k (pre ++ List.replicate n 0) dl ((pre.length + n : Nat) : Int) (pre.length : Int) l m fo ft) R := by
  intro n
  induction n with
  | zero =>
    intro pre hp hl h
    have e : pre = List.replicate (pre.length + 0) (-1) := List.eq_replicate_iff.2 ⟨by simp, hp⟩
    refine Ev.step (fun k => spec_seFar.l0.eq_2 ..) ?_
    rw [show pre ++ List.replicate 0 0 = pre by simp]
    rw [← e] at h
    simp only [if_neg (show ¬ (pre.length : Int) < ((pre.length + 0 : Nat) : Int) by omega)]
    exact h
  | succ n ih =>
    intro pre hp hl h
    refine Ev.step (fun k => spec_seFar.l0.eq_2 ..) ?_
    rw [List.replicate_succ, set_mid, wr_id (a := (pre.length : Int) + 1) (by omega) (by omega)]
    simp only [if_pos (show (pre.length : Int) < ((pre.length + (n + 1) : Nat) : Int) by omega), if_pos (zle pre.length), if_pos (lt_mid pre (0 : Int) (List.replicate n 0))]
    rw [app_mid]
    have := ih (pre ++ [-1]) (fun v hv => by
      rcases List.mem_append.1 hv with hv | hv
      · exact hp v hv
      · simpa using hv) (by simp; omega) (by rw [show (pre ++ [(-1 : Int)]).length + n = pre.length + (n + 1) by simp; omega]; exact h)
    rw [show ((pre ++ [(-1 : Int)]).length + n : Nat) = pre.length + (n + 1) by simp; omega, show (((pre ++ [(-1 : Int)]).length : Nat) : Int) = (pre.length : Int) + 1 by simp] at this
    exact this
theorem seFar_okB (h : goodP l m = true) (fo : List Bool) (ft : Bool) (hf : fo.length = l.length) : ∃ far, Ev (fun k => spec_seFar.f k l m fo ft) far ∧ far.length = 2 ^ (l.length + 1) ∧ (∀ v, 0 ≤ v → v < (far.length : Int) → rd far v ≤ 512000) ∧ ∀ v, 0 ≤ v → v < (far.length : Int) → IsLeast (H.Way (EdgP enS true l m) (fun v => v = enS fo ft) v) (rd far v) := by
  obtain ⟨_, hn, _⟩ := goodP_times h
  obtain ⟨hp0, hp1, _⟩ := pow_le8 hn
  have hp2 : 2 ^ (l.length + 1) ≤ 512 := by
    have : 2 ^ (l.length + 1) ≤ 2 ^ 9 := Nat.pow_le_pow_right (by omega) (by omega)
    exact this
  obtain ⟨N, hN⟩ : ∃ N, N = 2 ^ (l.length + 1) := ⟨_, rfl⟩
  have hNi : (N : Int) = 2 ^ (l.length + 1) := by rw [hN]; exact pow_nat _
  have hs := en_facts hn fo ft hf
  have hs' : 0 ≤ enS fo ft ∧ enS fo ft < (N : Int) := ⟨hs.2.2.2.1, by rw [hNi]; exact hs.2.2.2.2.1⟩
  have hB := edgP_bounded h N hNi (enS fo ft) hs'
  have hI := DInv.init hB (enS fo ft) (fun x => Iff.rfl)
  have hrep : ∀ v, 0 ≤ v → v < (N : Int) → rdOf false (List.replicate N false) v = false := fun v v0 v1 => by
    unfold rdOf
    rw [List.getD_eq_getElem?_getD, List.getElem?_replicate]
    split <;> rfl
  have hI := DInv_congr (dn' := fun v => rdOf false (List.replicate N false) v) hI hB (fun v v0 v1 => (hrep v v0 v1).symm)
  obtain ⟨far, e1, e2, e3, e4⟩ := far_l1 h N hNi (by omega) (enS fo ft) hs' 512 _ (List.replicate N false) (Nat.le_trans List.countP_le_length (by rw [List.length_replicate]; omega)) (by omega) (by simp) hI (fun v v0 v1 => by
    rw [rd_set _ _ v 0 hs'.1 (by simpa using hs'.2) v0]
    split
    · omega
    · rw [rd_rep N (-1) v v0 v1]; omega)
  refine ⟨far, ?_, by rw [e2, hN], by rw [e2]; intro v v0 v1; have := e3 v v0 v1; omega, by rw [e2]; exact e4⟩
  unfold spec_seFar.f
  rw [shl2 hn, ← hN, Int.toNat_natCast]
  simp only [if_pos (zle N), if_pos (show N ≤ 35184372088832 by omega), Option.bind_some, List.length_replicate, Int.toNat_natCast, if_pos (show N ≤ 281474976710656 by omega)]
  have hfl := far_fill (l := l) (m := m) fo ft (List.replicate N false) far N [] (by simp) (by simp; omega) (by
    refine Ev.bind (seIndex_ev hn fo ft hf) ?_
    simp only [List.length_nil, Nat.zero_add, List.length_replicate]
    simp only [if_pos hs'.1, if_pos hs'.2]
    exact e1)
  simpa using hfl
theorem seFar_ok (h : goodP l m = true) (fo : List Bool) (ft : Bool) (hf : fo.length = l.length) : ∃ far, Ev (fun k => spec_seFar.f k l m fo ft) far ∧ far.length = 2 ^ (l.length + 1) ∧ ∀ v, 0 ≤ v → v < (far.length : Int) → IsLeast (H.Way (EdgP enS true l m) (fun v => v = enS fo ft) v) (rd far v) := by
  obtain ⟨far, f1, f2, _, f4⟩ := seFar_okB h fo ft hf
  exact ⟨far, f1, f2, f4⟩
def esP (timed : Bool) (l : List Int) (m : Int) (u : Int) : List Edg := (tripsP m (dcI l.length u).1 (dcI l.length u).2).map fun t => (enI (mv (!(dcI l.length u).2) t (dcI l.length u).1) (!(dcI l.length u).2), cstP timed l t, t)
theorem ptyStep_ev (h : goodP l m = true) (timed : Bool) {ov : List Bool} {tr : Bool} (hl : ov.length = l.length) (s : List Edg) {t : List Int} (ht : t ∈ tripsP m ov tr) (hs : s.length < 1099511627776) : Ev (fun k => ptyStep k timed l ov tr s t) (s ++ [(enI (mv (!tr) t ov) (!tr), cstP timed l t, t)]) := by
  have hn := (goodP_times h).2.1
  have hm := (goodP_times h).2.2.2
  have hi := trip_in ht
  have htl : t.length ≤ 1048576 := by have := (tripsP_mem.1 ht).2.1; omega
  unfold ptyStep ptyCost cstP
  have hc : Ev (fun k => if timed = true then impl_slowest.f k l t else some 1) (if timed = true then mxs l t 0 else 1) := by
    cases timed with
    | false => exact Ev.now _
    | true => exact slowest_ev l t htl (fun x hx => ⟨(hi x hx).1, by rw [← hl]; exact (hi x hx).2.1⟩)
  refine Ev.bind hc (Ev.bind (moved_ev ov tr t (by omega) htl (fun x hx => ⟨(hi x hx).1, (hi x hx).2.1⟩)) ?_)
  dsimp only
  refine Ev.bind (code_ev hn (mv (!tr) t ov) (!tr) (by rw [mv_len]; exact hl)) ?_
  simp only [if_pos hs]
  exact Ev.now _
theorem fold_ev (h : goodP l m = true) (timed : Bool) {ov : List Bool} {tr : Bool} (hl : ov.length = l.length) : ∀ (gs : List (List Int)) (s : List Edg), (∀ t ∈ gs, t ∈ tripsP m ov tr) → s.length + gs.length < 1099511627776 → Ev (fun k => gs.foldlM (ptyStep k timed l ov tr) s) (s ++ gs.map fun t => (enI (mv (!tr) t ov) (!tr), cstP timed l t, t)) := by
  intro gs
  induction gs with
  | nil => intro s _ _; simp only [List.foldlM_nil, List.map_nil, List.append_nil]; exact Ev.now _
  | cons t gs ih =>
    intro s hg hs
    simp only [List.length_cons] at hs
    simp only [List.foldlM_cons, List.map_cons]
    have := ih (s ++ [(enI (mv (!tr) t ov) (!tr), cstP timed l t, t)]) (fun x hx => hg x (by simp [hx])) (by simp; omega)
    rw [List.append_assoc] at this
    exact Ev.bind (ptyStep_ev h timed hl s (hg t (by simp)) (by omega)) this
theorem ptyOut_ev (h : goodP l m = true) (timed : Bool) (u : Int) (u0 : 0 ≤ u) (u1 : u < 2 ^ (l.length + 1)) : Ev (fun k => ptyOut k timed l m u) (esP timed l m u) := by
  have hn := (goodP_times h).2.1
  have hd := dc_facts hn u u0 u1
  unfold ptyOut
  refine Ev.bind (stateOf_ev hn u u0 u1) ?_
  unfold esP
  generalize dcI l.length u = st at hd ⊢
  obtain ⟨ov, tr⟩ := st
  dsimp only at hd ⊢
  refine Ev.bind (side_ev ov tr tr (by omega)) ?_
  have hsl := sideP_len tr ov 0
  simp only [if_pos (show (sideP tr ov 0).length ≤ 20 by omega)]
  have hgl := grpsF_len m (sideP tr ov 0) []
  have hpw : 2 ^ (sideP tr ov 0).length ≤ 2 ^ 8 := Nat.pow_le_pow_right (by omega) (by omega)
  have := fold_ev h timed hd.1 (tripsP m ov tr) [] (fun t ht => ht) (by unfold tripsP; simp; omega)
  simp only [List.nil_append] at this
  exact this
theorem ev_all {α : Type} (f : Nat → Nat → Option α) (r : Nat → α) : ∀ (N : Nat), (∀ u, u < N → Ev (fun k => f k u) (r u)) → ∃ K, ∀ k, K ≤ k → ∀ u, u < N → f k u = some (r u) := by
  intro N
  induction N with
  | zero => intro _; exact ⟨0, fun k _ u hu => absurd hu (Nat.not_lt_zero _)⟩
  | succ N ih =>
    intro h
    obtain ⟨K1, h1⟩ := ih (fun u hu => h u (by omega))
    obtain ⟨K2, h2⟩ := h N (by omega)
    refine ⟨max K1 K2, fun k hk u hu => ?_⟩
    by_cases e : u = N
    · subst e; exact h2 k (by omega)
    · exact h1 k (by omega) u (by omega)
theorem from_p (h : goodP l m = true) (timed : Bool) (st : Int) (s0 : 0 ≤ st) (s1 : st < 2 ^ (l.length + 1)) : ∃ r, Ev (fun k => bkD (ptyOut k timed l m) k 0 (List.replicate (2 ^ (l.length + 1)) (-1)) [[st]]) r ∧ r.length = 2 ^ (l.length + 1) ∧ ∀ v, 0 ≤ v → v < 2 ^ (l.length + 1) → IsLeast (H.Way (EdgP enI timed l m) (fun v => v = st) v) (rd r v) := by
  obtain ⟨hn1, hn, hx, hm⟩ := goodP_times h
  have hp2 : 2 ^ (l.length + 1) ≤ 512 := by
    have : 2 ^ (l.length + 1) ≤ 2 ^ 9 := Nat.pow_le_pow_right (by omega) (by omega)
    exact this
  have hpi := pow_nat l.length
  obtain ⟨N, hN⟩ : ∃ N, N = 2 ^ (l.length + 1) := ⟨_, rfl⟩
  rw [← hN] at hp2 hpi ⊢
  rw [← hpi] at s1 ⊢
  obtain ⟨o1, ho1⟩ : ∃ o1 : Int → Option (List Edg), o1 = fun u => if 0 ≤ u ∧ u < (N : Int) then some (esP timed l m u) else none := ⟨_, rfl⟩
  have ho1' : ∀ u, 0 ≤ u → u < (N : Int) → o1 u = some (esP timed l m u) := fun u u0 u1 => by rw [ho1]; exact if_pos ⟨u0, u1⟩
  have hmem : ∀ u, 0 ≤ u → u < (N : Int) → ∀ v (c : Nat), (∃ e ∈ esP timed l m u, e.1 = v ∧ e.2.1 = (c : Int)) ↔ EdgP enI timed l m u v c := by
    intro u u0 u1 v c
    have hd := dc_facts hn u u0 (by rw [← hpi]; exact u1)
    unfold esP
    generalize hst : dcI l.length u = sst at hd ⊢
    obtain ⟨ov, tr⟩ := sst
    dsimp only at hd ⊢
    constructor
    · rintro ⟨e, he, rfl, hc⟩
      obtain ⟨t, ht, rfl⟩ := List.mem_map.1 he
      exact ⟨ov, tr, t, hd.1, hd.2.1.symm, ht, rfl, hc.symm⟩
    · rintro ⟨ov2, tr2, t, hl2, e, ht, rfl, hc⟩
      obtain ⟨rfl, rfl⟩ := enI_inj hn hd.1 hl2 (hd.2.1.trans e)
      exact ⟨_, List.mem_map.2 ⟨t, ht, rfl⟩, rfl, hc.symm⟩
  have hok : Okay o1 N 1000 256 := by
    intro u u0 u1
    refine ⟨_, ho1' u u0 u1, ?_, fun e he => ?_⟩
    · have hd := dc_facts hn u u0 (by rw [← hpi]; exact u1)
      unfold esP
      rw [List.length_map]
      unfold tripsP
      have hsl := sideP_len (dcI l.length u).2 (dcI l.length u).1 0
      have hgl := grpsF_len m (sideP (dcI l.length u).2 (dcI l.length u).1 0) []
      have hpw : 2 ^ (sideP (dcI l.length u).2 (dcI l.length u).1 0).length ≤ 2 ^ 8 := Nat.pow_le_pow_right (by omega) (by omega)
      omega
    · have hd := dc_facts hn u u0 (by rw [← hpi]; exact u1)
      unfold esP at he
      obtain ⟨t, ht, rfl⟩ := List.mem_map.1 he
      have h2 := en_facts hn (mv (!(dcI l.length u).2) t (dcI l.length u).1) (!(dcI l.length u).2) (by rw [mv_len]; exact hd.1)
      have h3 := cst_bound h timed hd.1 ht
      exact ⟨h2.1, by rw [hpi]; exact h2.2.1, h3.1, h3.2⟩
  obtain ⟨K, r, r1, r2, r3⟩ := from_ok (starts := [st]) hok (by omega) (by decide) (by simp [bkLim]; omega) (by simp [bkLim]; omega) (by intro s hs; have : s = st := by simpa using hs
                                                                                                                                         subst this; exact ⟨s0, s1⟩)
  obtain ⟨K2, hK2⟩ := ev_all (fun k u => ptyOut k timed l m ((u : Nat) : Int)) (fun u => esP timed l m ((u : Nat) : Int)) N (fun u hu => ptyOut_ev h timed u (by omega) (by rw [← hpi]; omega))
  refine ⟨r, ⟨max K K2 + 1, fun k hk => ?_⟩, r2, fun v v0 v1 => (r3 v v0 v1).iff (fun n => ?_)⟩
  · obtain ⟨k, rfl⟩ : ∃ j, k = j + 1 := ⟨k - 1, by omega⟩
    have hr := r1 k (by omega)
    unfold fromF at hr
    rw [if_pos (by omega), Int.toNat_natCast] at hr
    refine bkD_up (o1 := o1) (o2 := ptyOut (k + 1) timed l m) (fun s es hs => ?_) k 0 _ _ r hr
    rw [ho1] at hs
    dsimp only at hs
    split at hs
    · rename_i hr2
      have := hK2 (k + 1) (by omega) s.toNat (by omega)
      rw [show ((s.toNat : Nat) : Int) = s from Int.toNat_of_nonneg hr2.1] at this
      rw [this]
      exact hs
    · cases hs
  · constructor
    · refine H.Way.imp_ (fun u v c he => ?_) (fun s hs => by simpa using hs)
      obtain ⟨u0, u1, es, e, he1, he2, he3, he4⟩ := he
      rw [ho1' u u0 u1] at he1
      obtain rfl := Option.some.inj he1
      exact (hmem u u0 u1 v c).1 ⟨e, he2, he3, he4⟩
    · refine H.Way.imp_ (fun u v c he => ?_) (fun s hs => by simpa using hs)
      have hub : 0 ≤ u ∧ u < (N : Int) := by
        obtain ⟨ov, tr, t, hl, rfl, _⟩ := he
        have := en_facts hn ov tr hl
        exact ⟨this.1, by rw [hpi]; exact this.2.1⟩
      obtain ⟨e, e1, e2, e3⟩ := (hmem u hub.1 hub.2 v c).2 he
      exact ⟨hub.1, hub.2, _, e, ho1' u hub.1 hub.2, e1, e2, e3⟩
theorem first_en {n : Nat} (h : n ≤ 8) : enI (List.replicate n false) false = 0 := by
  have : n = 0 ∨ n = 1 ∨ n = 2 ∨ n = 3 ∨ n = 4 ∨ n = 5 ∨ n = 6 ∨ n = 7 ∨ n = 8 := by omega
  rcases this with rfl | rfl | rfl | rfl | rfl | rfl | rfl | rfl | rfl <;> decide +kernel
end
end Go.Proofs.Ytihieplobgehaaa.Pure

namespace Go.Proofs.Ytihieplobgehaaa.Pure
open Go.RowKit Go.Proofs.Ytihieplobgehaaa.C1 Go.Proofs.Ytihieplobgehaaa.H Go.Proofs.YtihieplobgehaaaW.PrintWords Go.Proofs.YtihieplobgehaaaW.PrintLast Go.Proofs.YtihieplobgehaaaW.PrintMore
set_option linter.unusedVariables false
set_option linter.unusedSimpArgs false
section
variable {l : List Int} {m : Int}
theorem least_sign {P : Nat → Prop} {x : Int} (h : IsLeast P x) : x = -1 ∨ 0 ≤ x := by
  rcases h with ⟨q, _⟩ | ⟨k, q, _⟩ <;> omega
end
end Go.Proofs.Ytihieplobgehaaa.Pure

namespace Go.Proofs.Ytihieplobgehaaa.Pure
open Go.RowKit Go.Proofs.Ytihieplobgehaaa.C1 Go.Proofs.Ytihieplobgehaaa.H Go.Proofs.YtihieplobgehaaaW.PrintWords Go.Proofs.YtihieplobgehaaaW.PrintLast Go.Proofs.YtihieplobgehaaaW.PrintMore
set_option linter.unusedVariables false
set_option linter.unusedSimpArgs false
end Go.Proofs.Ytihieplobgehaaa.Pure

namespace Go.Proofs.Ytihieplobgehaaa.Pure
open Go.Proofs.Ytihieplobgehaaa.Walk Go.RowKit Go.Proofs.Ytihieplobgehaaa.C1 Go.Proofs.Ytihieplobgehaaa.H Go.Proofs.YtihieplobgehaaaW.PrintWords Go.Proofs.YtihieplobgehaaaW.PrintLast Go.Proofs.YtihieplobgehaaaW.PrintMore
set_option linter.unusedVariables false
set_option linter.unusedSimpArgs false
def stS (n : Nat) (u : Int) : S54 := ⟨(dcS n u).1, (dcS n u).2⟩
def nST (l : List S54) : Nat := l.length + szSum (fun s => s.f0.length) l
theorem rdT_mid (pre : List S54) (x : S54) (r : List S54) : rd_T54 (pre ++ x :: r) (pre.length : Int) = x := by simp [rd_T54]
theorem eqStateS_loop : ∀ (r pre : List S54), (pre ++ r).length ≤ 1048576 → (∀ x ∈ r, x.f0.length ≤ 1048576) → Ev (fun k => laws_eqStateS.l0 k (pre ++ r) (pre ++ r) (pre.length : Int)) true := by
  intro r
  induction r with
  | nil =>
    intro pre hl hx
    refine Ev.step (f := fun _ => some true) (fun k => ?_) (Ev.now _)
    simp only [laws_eqStateS.l0]
    rw [if_neg (nlt_end pre)]
  | cons x r ih =>
    intro pre hl hx
    refine Ev.step (fun k => laws_eqStateS.l0.eq_2 ..) ?_
    simp only [if_pos (lt_mid pre x r), if_pos (zle pre.length), rdT_mid]
    refine Ev.bind (eqState_ev x.f0 x.f1 x.f0 x.f1 (hx x (by simp))) ?_
    simp only [decide_true, if_true]
    rw [wr_mid pre x r (by omega), app_mid pre x r]
    exact ih (pre ++ [x]) (by simpa using hl) (fun y hy => hx y (by simp [hy]))
theorem eqStateS_same (l : List S54) (h : nST l ≤ 1048576) : Ev (fun k => laws_eqStateS.f k l l) true := by
  have h1 := szSum_bound (fun s : S54 => s.f0.length) l (by simpa only [nST] using h)
  unfold laws_eqStateS.f
  simp only [if_true]
  exact eqStateS_loop l [] (by simpa using h1.1) h1.2
theorem markStateS_ev (l : List S54) (a : Int) (h : nST l ≤ 1048576) : laws_markStateS.f l a = some (mkST l a) := rfl
theorem mkST_len (l : List S54) : ∀ a : Int, (mkST l a).2.length = l.length := by
  induction l with
  | nil => intro a; rfl
  | cons x l ih => intro a; simp only [mkST, List.length_cons]; rw [ih]
theorem mkST_bound' (l : List S54) : ∀ a : Int, 0 ≤ a → a + (nST l : Int) ≤ 1000000000000000 → a ≤ (mkST l a).1 ∧ (mkST l a).1 ≤ a + (nST l : Int) := by
  induction l with
  | nil => intro a _ _; simp [mkST, nST, szSum]
  | cons x l ih =>
    intro a h0 h1
    simp only [nST, List.length_cons, szSum] at h1
    have h2 := mkB_bound x.f0 a h0 (by omega)
    have := ih ((mkB x.f0 a).1 + 1) (by omega) (by simp only [nST]; omega)
    simp only [nST] at this
    simp only [mkST, nST, List.length_cons, szSum]
    rw [wr_id (by omega) (by omega)]
    omega
theorem mkST_bound (l : List S54) (a : Int) (h0 : 0 ≤ a) (h1 : a + nST l ≤ 1000000000000000) : a ≤ (mkST l a).1 ∧ (mkST l a).1 ≤ a + nST l := mkST_bound' l a h0 h1
theorem heldStateS_loop : ∀ (r pre : List S54) (a : Int), 0 ≤ a → a + (nST r : Int) ≤ 1000000000 → (pre ++ r).length ≤ 1048576 → (∀ x ∈ r, x.f0.length ≤ 1048576) → Ev (fun k => laws_heldStateS.l0 k (pre ++ (mkST r a).2) a (pre.length : Int)) (mkST r a).1 := by
  intro r
  induction r with
  | nil =>
    intro pre a h0 ha hl hx
    refine Ev.step (f := fun _ => some a) (fun k => ?_) (Ev.now _)
    show laws_heldStateS.l0 (k + 1) (pre ++ []) a (pre.length : Int) = some a
    simp only [laws_heldStateS.l0]
    rw [if_neg (nlt_end pre)]
  | cons x r ih =>
    intro pre a h0 ha hl hx
    simp only [nST, List.length_cons, szSum] at ha
    have hb := mkB_bound x.f0 a h0 (by omega)
    refine Ev.step (f := fun k => (laws_heldBoolS.f k (mkB x.f0 a).2 a).bind fun t => if t < 0 then some (-1) else if ((Int.tmod (mkB x.f0 a).1 3 == 0) != (Int.tmod t 3 == 0)) = true then some (-1) else laws_heldStateS.l0 k (pre ++ ⟨(mkB x.f0 a).2, Int.tmod (mkB x.f0 a).1 3 == 0⟩ :: (mkST r (wrap64 ((mkB x.f0 a).1 + 1))).2) (wrap64 (t + 1)) (wrap64 ((pre.length : Int) + 1))) (fun k => ?_) (Ev.bind (heldBoolS_ev x.f0 a h0 (by omega) (hx x (by simp))) ?_)
    · show laws_heldStateS.l0 (k + 1) (pre ++ ⟨(mkB x.f0 a).2, Int.tmod (mkB x.f0 a).1 3 == 0⟩ :: (mkST r (wrap64 ((mkB x.f0 a).1 + 1))).2) a (pre.length : Int) = _
      simp only [laws_heldStateS.l0]
      rw [if_pos (lt_mid pre _ _), if_pos (zle _), rdT_mid]
    · simp only [if_neg (show ¬ (mkB x.f0 a).1 < 0 by omega), bne_self_eq_false, Bool.false_eq_true, if_false]
      have e : wrap64 ((mkB x.f0 a).1 + 1) = (mkB x.f0 a).1 + 1 := wr_id (by omega) (by omega)
      simp only [mkST]
      rw [e, wr_mid pre (⟨(mkB x.f0 a).2, Int.tmod (mkB x.f0 a).1 3 == 0⟩ : S54) (mkST r ((mkB x.f0 a).1 + 1)).2 (by simp [mkST_len] at hl ⊢; omega), app_mid pre]
      exact ih (pre ++ [_]) _ (by omega) (by simp only [nST]; omega) (by simpa using hl) (fun y hy => hx y (by simp [hy]))
theorem heldStateS_ev (l : List S54) (a : Int) (h0 : 0 ≤ a) (ha : a ≤ 1000000) (hl : nST l ≤ 1048576) : Ev (fun k => laws_heldStateS.f k (mkST l a).2 a) (mkST l a).1 := by
  have h1 := szSum_bound (fun s : S54 => s.f0.length) l (by simpa only [nST] using hl)
  exact heldStateS_loop l [] a h0 (by omega) (by simpa using h1.1) h1.2
set_option maxRecDepth 100000 in
theorem chk_bits : ((List.range 9).all fun n => (List.range (2 ^ (n + 1))).all fun u => decide (((Go.bits .and .i64 (shr .i64 (u : Int) (n : Int)) 1) == 1) = ((u : Int) / 2 ^ n % 2 == 1)) && (List.range n).all fun j => decide (((Go.bits .and .i64 (shr .i64 (u : Int) (wrap64 ((wrap64 ((n : Int) - 1)) - (j : Int)))) 1) == 1) = ((u : Int) / 2 ^ (n - 1 - j) % 2 == 1))) = true := by decide +kernel
theorem bits_top {n u : Nat} (hn : n ≤ 8) (hu : u < 2 ^ (n + 1)) : ((Go.bits .and .i64 (shr .i64 (u : Int) (n : Int)) 1) == 1) = (dcS n (u : Int)).2 ∧ ∀ j, j < n → ((Go.bits .and .i64 (shr .i64 (u : Int) (wrap64 ((wrap64 ((n : Int) - 1)) - (j : Int)))) 1) == 1) = ((u : Int) / 2 ^ (n - 1 - j) % 2 == 1) := by
  have h := List.all_eq_true.1 (List.all_eq_true.1 chk_bits n (List.mem_range.2 (by omega))) u (List.mem_range.2 hu)
  rw [Bool.and_eq_true] at h
  refine ⟨of_decide_eq_true h.1, fun j hj => ?_⟩
  exact of_decide_eq_true (List.all_eq_true.1 h.2 j (List.mem_range.2 hj))
def stL (n : Nat) : Nat → Nat → List S54
  | _, 0 => []
  | i, d + 1 => if stateP n (dcS n (i : Int)).1 (dcS n (i : Int)).2 = true then stS n (i : Int) :: stL n (i + 1) d else stL n (i + 1) d
theorem stL_len (n : Nat) : ∀ d i, (stL n i d).length ≤ d
  | 0, _ => by simp [stL]
  | d + 1, i => by
    have := stL_len n d (i + 1)
    simp only [stL]
    split
    · simp only [List.length_cons]; omega
    · omega
theorem inOrder_in {n u : Nat} (hn : n ≤ 8) (hu : u < 2 ^ (n + 1)) (acc : List S54) (N : Int) (tb : Bool) (V : List S54)
    (hV : Ev (fun k => (impl_isStateOf.f k (n : Int) (dcS n (u : Int)).1 tb).bind fun t302 => (if t302 = true then (if acc.length < 4398046511104 then (impl_inOrder.l0 k (n : Int) (acc ++ [(⟨(dcS n (u : Int)).1, tb⟩ : S54)]) N (wrap64 ((u : Int) + 1))) else (none)) else (impl_inOrder.l0 k (n : Int) acc N (wrap64 ((u : Int) + 1))))) V) :
    ∀ d j : Nat, j + d = n → Ev (fun k => impl_inOrder.l1 k (n : Int) acc (u : Int) N (u : Int) (n : Int) (j : Int) ((List.range j).map (fun k => (u : Int) / 2 ^ (n - 1 - k) % 2 == 1) ++ List.replicate d false) tb) V := by
  intro d
  induction d with
  | zero =>
    intro j hj
    refine Ev.step (fun k => impl_inOrder.l1.eq_2 ..) ?_
    simp only [if_neg (show ¬ (j : Int) < (n : Int) by omega)]
    have e : (List.range j).map (fun k => (u : Int) / 2 ^ (n - 1 - k) % 2 == 1) ++ List.replicate 0 false = (dcS n (u : Int)).1 := by
      rw [show j = n by omega]; simp [dcS]
    rw [e]
    exact hV
  | succ d ih =>
    intro j hj
    refine Ev.step (fun k => impl_inOrder.l1.eq_2 ..) ?_
    have e1 : wrap64 ((n : Int) - 1) = (n : Int) - 1 := wr_id (by omega) (by omega)
    have e2 : wrap64 ((n : Int) - 1 - (j : Int)) = (n : Int) - 1 - (j : Int) := wr_id (by omega) (by omega)
    have hb := (bits_top hn hu).2 j (by omega)
    rw [e1, e2] at hb
    simp only [e1, e2, if_pos (show (j : Int) < (n : Int) by omega), if_pos (show 0 ≤ (n : Int) - 1 - (j : Int) by omega), if_pos (zle j), hb]
    have hlen : ((List.range j).map (fun k => (u : Int) / 2 ^ (n - 1 - k) % 2 == 1) ++ List.replicate (d + 1) false).length = n := by simp; omega
    simp only [if_pos (show (j : Int) < ((((List.range j).map (fun k => (u : Int) / 2 ^ (n - 1 - k) % 2 == 1) ++ List.replicate (d + 1) false).length : Nat) : Int) by rw [hlen]; omega)]
    have e3 : wrap64 ((j : Int) + 1) = ((j + 1 : Nat) : Int) := by rw [wr_id (by omega) (by omega)]; omega
    simp only [e3]
    have e4 : ((List.range j).map (fun k => (u : Int) / 2 ^ (n - 1 - k) % 2 == 1) ++ List.replicate (d + 1) false).set ((j : Int)).toNat ((u : Int) / 2 ^ (n - 1 - j) % 2 == 1) = (List.range (j + 1)).map (fun k => (u : Int) / 2 ^ (n - 1 - k) % 2 == 1) ++ List.replicate d false := by
      rw [Int.toNat_natCast, List.set_append_right _ _ (by simp), List.range_succ, List.map_append, List.append_assoc]
      simp [List.replicate_succ]
    simp only [e4]
    exact ih (j + 1) (by omega)
theorem inOrder_loop {n : Nat} (hn : n ≤ 8) : ∀ (d i : Nat) (acc : List S54), i + d = 2 ^ (n + 1) → acc.length + d ≤ 1000 → Ev (fun k => impl_inOrder.l0 k (n : Int) acc ((2 ^ (n + 1) : Nat) : Int) (i : Int)) (acc ++ stL n i d) := by
  intro d
  induction d with
  | zero =>
    intro i acc hi ha
    refine Ev.step (fun k => impl_inOrder.l0.eq_2 ..) ?_
    simp only [if_neg (show ¬ (i : Int) < ((2 ^ (n + 1) : Nat) : Int) by omega), stL, List.append_nil]
    exact Ev.now _
  | succ d ih =>
    intro i acc hi ha
    have hu : i < 2 ^ (n + 1) := by omega
    refine Ev.step (fun k => impl_inOrder.l0.eq_2 ..) ?_
    simp only [if_pos (show (i : Int) < ((2 ^ (n + 1) : Nat) : Int) by omega), if_pos (zle n), Int.toNat_natCast, if_pos (show n ≤ 281474976710656 by omega), Option.bind_some, List.length_replicate]
    rw [(bits_top hn hu).1]
    have hl1 := (dc_facts hn (i : Int) (zle i) (by rw [← pow_nat]; omega)).2.2.1
    have e3 : wrap64 ((i : Int) + 1) = ((i + 1 : Nat) : Int) := by
      have : 2 ^ (n + 1) ≤ 2 ^ 9 := Nat.pow_le_pow_right (by omega) (by omega)
      rw [wr_id (by omega) (by omega)]; omega
    have := inOrder_in hn hu acc ((2 ^ (n + 1) : Nat) : Int) (dcS n (i : Int)).2 (acc ++ stL n i (d + 1)) (by
      refine Ev.bind (isStateOf_ev n _ _ (by rw [hl1]; omega)) ?_
      rw [e3, stL]
      by_cases c : stateP n (dcS n (i : Int)).1 (dcS n (i : Int)).2 = true
      · simp only [if_pos c, if_pos (show acc.length < 4398046511104 by omega)]
        refine ev_eq (ih (i + 1) _ (by omega) (by simp; omega)) ?_
        simp [stS]
      · simp only [if_neg c]
        exact ih (i + 1) acc (by omega) (by omega)) n 0 (by omega)
    simpa using this
theorem inOrder_ev {n : Nat} (hn : n ≤ 8) : Ev (fun k => impl_inOrder.f k (n : Int)) (stL n 0 (2 ^ (n + 1))) := by
  have hp : 2 ^ (n + 1) ≤ 2 ^ 9 := Nat.pow_le_pow_right (by omega) (by omega)
  unfold impl_inOrder.f
  simp only [if_pos (zle n), shl2 hn]
  exact inOrder_loop hn _ 0 [] (by omega) (by simp; omega)
def badL (n : Nat) : Nat → List Int → Bool
  | _, [] => false
  | i, y :: r => (decide (y < 0) && stateP n (dcS n (i : Int)).1 (dcS n (i : Int)).2) || badL n (i + 1) r
def pickL (n : Nat) (M : Int) : Nat → List Int → List S54
  | _, [] => []
  | i, y :: r => if y = M then stS n (i : Int) :: pickL n M (i + 1) r else pickL n M (i + 1) r
theorem pickL_sz (n : Nat) (hn : n ≤ 8) (M : Int) : ∀ (r : List Int) (i : Nat), i + r.length ≤ 2 ^ (n + 1) → nST (pickL n M i r) ≤ 9 * r.length
  | [], _, _ => by simp [pickL, nST, szSum]
  | y :: r, i, h => by
    simp only [List.length_cons] at h ⊢
    have := pickL_sz n hn M r (i + 1) (by omega)
    simp only [pickL]
    split
    · simp only [nST, List.length_cons, szSum] at this ⊢
      have hl1 := (dc_facts hn (i : Int) (zle i) (by rw [← pow_nat]; omega)).2.2.1
      have : (stS n (i : Int)).f0.length = n := hl1
      omega
    · omega
theorem farL_ev {n : Nat} (hn : n ≤ 8) (dist : List Int) (hd : dist.length = 2 ^ (n + 1)) : ∀ (r : List Int) (i : Nat) (o : List S54) (m : Int), i + r.length = 2 ^ (n + 1) → -1 ≤ m → 0 ≤ r.foldl max m →
    (∀ j y, r[j]? = some y → rd dist (enI (dcS n ((i + j : Nat) : Int)).1 (dcS n ((i + j : Nat) : Int)).2) = y ∧ (y = -1 ∨ 0 ≤ y) ∧ (0 ≤ y → stateP n (dcS n ((i + j : Nat) : Int)).1 (dcS n ((i + j : Nat) : Int)).2 = true)) →
    Ev (fun k => farL k dist (stL n i r.length) o m) (if badL n i r = true then ([], 0, false) else ((if r.foldl max m = m then o else []) ++ pickL n (r.foldl max m) i r, r.foldl max m, true)) := by
  intro r
  induction r with
  | nil =>
    intro i o m hi hm h0 hv
    show Ev (fun _ => some (o, m, true)) _
    refine ev_eq (Ev.now _) ?_
    simp [badL, pickL]
  | cons y r ih =>
    intro i o m hi hm h0 hv
    simp only [List.length_cons] at hi
    obtain ⟨v1, v2, v3⟩ := hv 0 y rfl
    rw [Nat.add_zero] at v1 v3
    have hd1 := dc_facts hn (i : Int) (zle i) (by rw [← pow_nat]; omega)
    have hV := en_facts hn (dcS n (i : Int)).1 (dcS n (i : Int)).2 hd1.2.2.1
    have hrest : ∀ j z, r[j]? = some z → rd dist (enI (dcS n ((i + 1 + j : Nat) : Int)).1 (dcS n ((i + 1 + j : Nat) : Int)).2) = z ∧ (z = -1 ∨ 0 ≤ z) ∧ (0 ≤ z → stateP n (dcS n ((i + 1 + j : Nat) : Int)).1 (dcS n ((i + 1 + j : Nat) : Int)).2 = true) := by
      intro j z hz
      have := hv (j + 1) z hz
      rwa [show i + (j + 1) = i + 1 + j by omega] at this
    have hge : ∀ (l : List Int) (m : Int), m ≤ l.foldl max m := by
      intro l
      induction l with
      | nil => intro m; simp
      | cons x l ih => intro m; exact Int.le_trans (Int.le_max_left m x) (ih (max m x))
    simp only [List.length_cons, stL, badL, pickL, List.foldl_cons] at h0 ⊢
    have ih' := ih (i + 1)
    by_cases c : stateP n (dcS n (i : Int)).1 (dcS n (i : Int)).2 = true
    · simp only [if_pos c, farL, stS]
      refine Ev.bind (code_ev hn _ _ hd1.2.2.1) ?_
      simp only [if_pos (show 0 ≤ enI (dcS n (i : Int)).1 (dcS n (i : Int)).2 ∧ enI (dcS n (i : Int)).1 (dcS n (i : Int)).2 < (dist.length : Int) from ⟨hV.1, by rw [hd, pow_nat]; exact hV.2.1⟩), v1, c, Bool.and_true]
      by_cases q : y < 0
      · simp only [if_pos q, decide_eq_true q, Bool.true_or, if_true]
        exact Ev.now _
      · simp only [if_neg q, decide_eq_false q, Bool.false_or]
        by_cases q2 : m < y
        · simp only [if_pos q2]
          simp only [Int.max_eq_right (show m ≤ y by omega)] at h0 ⊢
          refine ev_eq (ih' [⟨(dcS n (i : Int)).1, (dcS n (i : Int)).2⟩] y (by omega) (by omega) h0 hrest) ?_
          have := hge r y
          rw [if_neg (show ¬ r.foldl max y = m by omega)]
          by_cases q3 : r.foldl max y = y
          · rw [if_pos q3, if_pos q3.symm, List.nil_append]; rfl
          · simp only [if_neg q3, if_neg (show ¬ y = r.foldl max y from fun e => q3 e.symm), List.nil_append]
        · simp only [if_neg q2]
          simp only [Int.max_eq_left (show y ≤ m by omega)] at h0 ⊢
          by_cases q3 : y = m
          · simp only [if_pos q3]
            refine ev_eq (ih' (o ++ [⟨(dcS n (i : Int)).1, (dcS n (i : Int)).2⟩]) m (by omega) hm h0 hrest) ?_
            rw [q3]
            by_cases q4 : r.foldl max m = m
            · rw [if_pos q4, if_pos q4, if_pos q4.symm, List.append_assoc]; rfl
            · simp only [if_neg q4, if_neg (show ¬ m = r.foldl max m from fun e => q4 e.symm), List.nil_append]
          · simp only [if_neg q3]
            refine ev_eq (ih' o m (by omega) hm h0 hrest) ?_
            have := hge r m
            rw [if_neg (show ¬ y = r.foldl max m by omega)]
    · have hy : y = -1 := by
        rcases v2 with q | q
        · exact q
        · exact absurd (v3 q) c
      simp only [if_neg c, Bool.eq_false_iff.2 c, Bool.and_false, Bool.false_or]
      subst hy
      simp only [Int.max_eq_left hm] at h0 ⊢
      refine ev_eq (ih' o m (by omega) hm h0 hrest) ?_
      rw [if_neg (show ¬ (-1 : Int) = r.foldl max m by omega)]
theorem far_l1' {l : List Int} {m : Int} (hn : l.length ≤ 8) (M : Int) : ∀ (r pre : List Int) (acc : List S54), (pre ++ r).length = 2 ^ (l.length + 1) → acc.length + r.length ≤ 1000 → Ev (fun k => spec_FarthestStates.l1 k M acc (pre ++ r) ((pre ++ r).length : Int) (pre.length : Int) l m) (acc ++ pickL l.length M pre.length r, M, true) := by
  intro r
  induction r with
  | nil =>
    intro pre acc hl ha
    refine Ev.step (fun k => spec_FarthestStates.l1.eq_2 ..) ?_
    simp only [if_neg (nlt_end pre), pickL]
    exact ev_eq (Ev.now _) (by simp)
  | cons y r ih =>
    intro pre acc hl ha
    have hp : 2 ^ (l.length + 1) ≤ 2 ^ 9 := Nat.pow_le_pow_right (by omega) (by omega)
    have hpl : pre.length < 2 ^ (l.length + 1) := by rw [← hl]; simp
    refine Ev.step (fun k => spec_FarthestStates.l1.eq_2 ..) ?_
    simp only [if_pos (lt_mid pre y r), if_pos (zle pre.length), rd_mid]
    rw [wr_mid pre y r (by omega)]
    by_cases c : y = M
    · simp only [if_pos c, pickL]
      refine Ev.bind (seState_ev hn (pre.length : Int) (zle _) (by rw [← pow_nat]; omega)) ?_
      simp only [List.length_cons] at ha
      simp only [if_pos (show acc.length < 4398046511104 by omega)]
      rw [app_mid pre y r]
      refine ev_eq (ih (pre ++ [y]) _ (by simpa using hl) (by simp; omega)) ?_
      simp [stS]
    · simp only [if_neg c, pickL]
      rw [app_mid pre y r]
      refine ev_eq (ih (pre ++ [y]) acc (by simpa using hl) (by simp at ha ⊢; omega)) ?_
      simp
theorem l1Most_eq' (a b : Int) : spec_l1Most.f a b = some (max a b) := by
  unfold spec_l1Most.f
  by_cases c : a > b
  · rw [if_pos c, Int.max_eq_left (by omega)]
  · rw [if_neg c, Int.max_eq_right (by omega)]
theorem far_l0' {l : List Int} {m : Int} (hn : l.length ≤ 8) (far : List Int) (hf : far.length = 2 ^ (l.length + 1)) : ∀ (r pre : List Int) (M : Int), pre ++ r = far → Ev (fun k => spec_FarthestStates.l0 k far M far (far.length : Int) (pre.length : Int) l m) (if badL l.length pre.length r = true then ([], 0, false) else (pickL l.length (r.foldl max M) 0 far, r.foldl max M, true)) := by
  intro r
  have hp : 2 ^ (l.length + 1) ≤ 2 ^ 9 := Nat.pow_le_pow_right (by omega) (by omega)
  induction r with
  | nil =>
    intro pre M e
    subst e
    refine Ev.step (fun k => spec_FarthestStates.l0.eq_2 ..) ?_
    simp only [if_neg (nlt_end pre), badL, Bool.false_eq_true, if_false, List.foldl_nil]
    exact ev_eq (far_l1' hn M (pre ++ []) [] [] (by simpa using hf) (by simp at hf ⊢; omega)) (by simp)
  | cons y r ih =>
    intro pre M e
    have ih' := ih (pre ++ [y])
    have hpl : pre.length < 2 ^ (l.length + 1) := by rw [← hf, ← e]; simp
    have hlt : (pre.length : Int) < (far.length : Int) := by omega
    have hrd : rd far (pre.length : Int) = y := by rw [← e]; exact rd_mid pre y r
    have hw : wrap64 ((pre.length : Int) + 1) = ((pre ++ [y]).length : Int) := by
      rw [wr_id (by omega) (by omega)]; simp
    refine Ev.step (fun k => spec_FarthestStates.l0.eq_2 ..) ?_
    simp only [if_pos hlt, if_pos (zle pre.length), hrd, hw, badL, List.foldl_cons]
    have hl1 := (dc_facts hn (pre.length : Int) (zle _) (by rw [← pow_nat]; omega)).2.2.1
    by_cases q : y < 0
    · simp only [if_pos q, decide_eq_true q, Bool.true_and]
      refine Ev.bind (seState_ev hn (pre.length : Int) (zle _) (by rw [← pow_nat]; omega)) ?_
      refine Ev.bind (paState_ev l m _ _ (by rw [hl1]; omega)) ?_
      cases c : stateP l.length (dcS l.length (pre.length : Int)).1 (dcS l.length (pre.length : Int)).2 with
      | true => simp only [if_true, Bool.true_or]; exact Ev.now _
      | false =>
        simp only [Bool.false_eq_true, if_false, Bool.false_or, l1Most_eq', Option.bind_some]
        refine ev_eq (ih' (max M y) (by rw [← e]; simp)) ?_
        simp
    · simp only [if_neg q, decide_eq_false q, Bool.false_and, Bool.false_or, l1Most_eq', Option.bind_some]
      refine ev_eq (ih' (max M y) (by rw [← e]; simp)) ?_
      simp
theorem way_state {l : List Int} {m : Int} (h : goodP l m = true) (s v : Int) (hs : s = enS (List.replicate l.length false) false) {k : Nat} (w : H.Way (EdgP enS true l m) (fun v => v = s) v k) : stateP l.length (dcS l.length v).1 (dcS l.length v).2 = true := by
  have hg := goodP_times h
  cases w with
  | here q =>
    subst q
    rw [hs, (en_facts hg.2.1 _ false (by simp)).2.2.2.2.2]
    unfold stateP
    simp only [List.length_replicate, decide_true, Bool.true_and, List.any_eq_true, List.mem_replicate]
    exact ⟨false, ⟨by omega, rfl⟩, rfl⟩
  | on _ e =>
    obtain ⟨ov, tr, t, ho, rfl, ht, rfl, _⟩ := e
    rw [(en_facts hg.2.1 (mv (!tr) t ov) (!tr) (by rw [mv_len]; exact ho)).2.2.2.2.2]
    obtain ⟨t1, t2, t3, t4⟩ := tripsP_mem.1 ht
    unfold stateP
    simp only [mv_len, ho, decide_true, Bool.true_and, List.any_eq_true]
    obtain ⟨x, hx⟩ := List.exists_mem_of_ne_nil t t1
    have hi := trip_in ht
    obtain ⟨j, rfl, hj⟩ := t4 x hx
    have := mv_get (!tr) t ov j (fun x hx => ⟨(hi x hx).1, (hi x hx).2.1⟩)
    rw [if_pos hx] at this
    exact ⟨!tr, List.mem_of_getElem? this, by simp⟩
theorem fold_start (y : Int) (r : List Int) (h : 0 ≤ y) : (y :: r).foldl max (-1) = (y :: r).foldl max 0 ∧ 0 ≤ (y :: r).foldl max 0 := by
  have hge : ∀ (l : List Int) (m : Int), m ≤ l.foldl max m := by
    intro l
    induction l with
    | nil => intro m; simp
    | cons x l ih => intro m; exact Int.le_trans (Int.le_max_left m x) (ih (max m x))
  simp only [List.foldl_cons]
  rw [Int.max_eq_right (by omega), Int.max_eq_right h]
  exact ⟨rfl, Int.le_trans h (hge r y)⟩
theorem zero_state : ((List.range 9).all fun n => decide (1 ≤ n → stateP n (dcS n 0).1 (dcS n 0).2 = true)) = true := by decide +kernel
theorem FnExactFarthestStates_both (l : List Int) (m : Int) (hl : l.length ≤ 1048576) : ∃ rr : List S54 × Int × Bool, Ev (fun k => spec_FarthestStates.f k l m) rr ∧ Ev (fun k => impl_FarthestStates.f k l m) rr ∧ nST rr.1 ≤ 1048576 := by
  unfold spec_FarthestStates.f impl_FarthestStates.f
  rw [isParty_eq]
  cases hg : goodP l m with
  | false =>
    refine ⟨([], 0, false), Ev.bind (paGood_ev l m hl) ?_, ?_, by simp [nST, szSum]⟩
    · rw [hg]
      simp only [Bool.false_eq_true, if_false]
      exact Ev.now _
    · simp only [Option.bind_some, Bool.false_eq_true, if_false]; exact Ev.now _
  | true =>
    have hn := (goodP_times hg).2.1
    have hn1 := (goodP_times hg).1
    have hp : 2 ^ (l.length + 1) ≤ 2 ^ 9 := Nat.pow_le_pow_right (by omega) (by omega)
    have hlF : (List.replicate l.length false).length = l.length := by simp
    have hF := en_facts hn (List.replicate l.length false) false hlF
    obtain ⟨far, f1, f2, f3⟩ := seFar_ok hg (List.replicate l.length false) false hlF
    obtain ⟨r, r1, r2, r3⟩ := from_p hg true (enI (List.replicate l.length false) false) hF.1 hF.2.1
    have hfl : (far.length : Int) = 2 ^ (l.length + 1) := by rw [f2]; exact pow_nat _
    rw [first_en hn] at r1
    have hv : ∀ j y, far[j]? = some y → rd r (enI (dcS l.length ((0 + j : Nat) : Int)).1 (dcS l.length ((0 + j : Nat) : Int)).2) = y ∧ (y = -1 ∨ 0 ≤ y) ∧ (0 ≤ y → stateP l.length (dcS l.length ((0 + j : Nat) : Int)).1 (dcS l.length ((0 + j : Nat) : Int)).2 = true) := by
      intro j y hy
      rw [Nat.zero_add]
      obtain ⟨hj, hjy⟩ := List.getElem?_eq_some_iff.1 hy
      have hrd : rd far (j : Int) = y := by simp [rd, List.getD_eq_getElem?_getD, hy]
      have hd1 := dc_facts hn (j : Int) (zle j) (by rw [← pow_nat]; omega)
      have hV := en_facts hn (dcS l.length (j : Int)).1 (dcS l.length (j : Int)).2 hd1.2.2.1
      have e1 := f3 (j : Int) (zle j) (by omega)
      have e2 := r3 (enI (dcS l.length (j : Int)).1 (dcS l.length (j : Int)).2) hV.1 hV.2.1
      rw [hrd] at e1
      have e1' := e1
      rw [← hd1.2.2.2] at e1'
      refine ⟨(IsLeast.uniq (e1'.iff (fun k => way_IS hg true _ _ _ _ hlF hd1.2.2.1 k)) e2).symm, least_sign e1, fun h0 => ?_⟩
      rcases e1 with ⟨q, _⟩ | ⟨k, q, w, _⟩
      · omega
      · exact way_state hg _ _ rfl w
    have hS : Ev (fun k => spec_FarthestStates.l0 k far 0 far (far.length : Int) 0 l m) (if badL l.length 0 far = true then ([], 0, false) else (pickL l.length (far.foldl max 0) 0 far, far.foldl max 0, true)) := far_l0' hn far f2 far [] 0 rfl
    refine ⟨(if badL l.length 0 far = true then ([], 0, false) else (pickL l.length (far.foldl max 0) 0 far, far.foldl max 0, true)), Ev.bind (paGood_ev l m hl) ?_, ?_, ?_⟩
    · rw [hg]
      simp only [if_true, paFirst_eq l m hl, Option.bind_some]
      exact Ev.bind f1 hS
    · simp only [Option.bind_some, if_true, if_pos hn]
      refine Ev.bind r1 ?_
      simp only [if_pos r2]
      refine Ev.bind (inOrder_ev hn) ?_
      have hsl := stL_len l.length (2 ^ (l.length + 1)) 0
      simp only [if_pos (show (stL l.length 0 (2 ^ (l.length + 1))).length ≤ 1000000 by omega)]
      cases far with
      | nil =>
        have h2 : 0 < 2 ^ (l.length + 1) := Nat.pow_pos (by omega)
        rw [List.length_nil] at f2
        omega
      | cons y far' =>
        by_cases q : y < 0
        · have z := of_decide_eq_true (List.all_eq_true.1 zero_state l.length (List.mem_range.2 (by omega))) hn1
          have hb : badL l.length 0 (y :: far') = true := by
            simp only [badL, decide_eq_true q, Bool.true_and]
            rw [show ((0 : Nat) : Int) = 0 from rfl, z, Bool.true_or]
          rw [if_pos hb, ← f2]
          have hd0 := dc_facts hn (0 : Int) (by omega) (by rw [← pow_nat]; omega)
          have hV := en_facts hn (dcS l.length (0 : Int)).1 (dcS l.length (0 : Int)).2 hd0.2.2.1
          have v1 : rd r (enI (dcS l.length (0 : Int)).1 (dcS l.length (0 : Int)).2) = y := (hv 0 y rfl).1
          simp only [List.length_cons, stL, farL, stS]
          rw [show ((0 : Nat) : Int) = 0 from rfl, if_pos z]
          refine Ev.bind (code_ev hn _ _ hd0.2.2.1) ?_
          simp only [if_pos (show 0 ≤ enI (dcS l.length (0 : Int)).1 (dcS l.length (0 : Int)).2 ∧ enI (dcS l.length (0 : Int)).1 (dcS l.length (0 : Int)).2 < (r.length : Int) from ⟨hV.1, by rw [r2, pow_nat]; exact hV.2.1⟩)]
          simp only [v1, if_pos q]
          exact Ev.now _
        · have hs := fold_start y far' (by omega)
          have := farL_ev hn r r2 (y :: far') 0 [] (-1) (by omega) (by omega) (by rw [hs.1]; exact hs.2) hv
          rw [hs.1] at this
          rw [← f2]
          have z : ∀ (c : Prop) (d : Decidable c) (x : List S54), (@ite _ c d [] []) ++ x = x := by
            intro c d x
            split <;> rfl
          rw [z] at this
          exact this
    · split
      · simp [nST, szSum]
      · have := pickL_sz l.length hn (far.foldl max 0) far 0 (by omega)
        show nST (pickL l.length (far.foldl max 0) 0 far) ≤ 1048576
        omega
theorem FnExactFarthestStates_all (A0_0 : Option Addr) (c0_0 : Nat) (l0_0 : List Int) (a0_1 : Int) (w : World) (hr0_0 : Kd.C (Kd.int .i64) w A0_0 l0_0.length l0_0) (hc0_0 : l0_0.length ≤ c0_0) (g0_0 : goodL goodI l0_0) (g0_1 : goodI a0_1) :
    Calls Try.prog 4 #[.agg #[.slice A0_0 l0_0.length c0_0, .int .i64 a0_1]] w fun e w' => e = .returned (.bool true) ∧ Below w.heap.size w w' := by
  obtain ⟨u0, hu0, hc⟩ := szParty_cases l0_0 a0_1 1048576 (by omega) (by omega) g0_0.1
  replace hu0 := ev_some hu0
  rcases hc with hc | ⟨b0, d0⟩
  · obtain ⟨Kx, fx⟩ := hu0
    exact FnExactFarthestStates_short0 _ _ _ _ w hr0_0 hc0_0  _ (fx _ (Nat.le_refl _)) hc
  have nu0 : ¬ u0 < 0 := by omega
  have z0_0 : List.length l0_0 ≤ 1048576 := by omega
  have et0 := toParty_ev l0_0 a0_1 z0_0
  obtain ⟨rr, es, ei, hsm⟩ := FnExactFarthestStates_both l0_0 a0_1 z0_0
  obtain ⟨r0, r1, r2⟩ := rr
  dsimp only at hsm
  have s0 := hsm
  have eq0 : Ev (fun k => laws_eqStateS.f k r0 r0) true := eqStateS_same r0 s0
  have ea0 : Ev (fun k => laws_eqParty.f k l0_0 a0_1 l0_0 a0_1) true := ev_eq (eqParty_ev l0_0 a0_1 l0_0 a0_1 z0_0) (decide_eq_true rfl)
  have ema0 := markParty_ev l0_0 a0_1 (1) z0_0
  have bma0_0 := mkS_bound l0_0 (1) (by omega) (by omega)
  have na0_0 : ¬ (mkS l0_0 (1)).1 < 0 := by omega
  have emr0 := ev_some (markStateS_ev r0 (1) s0)
  have bmr0 := mkST_bound r0 (1) (by omega) (by omega)
  have nr0 : ¬ (mkST r0 (1)).1 < 0 := by omega
  have eh0 := heldStateS_ev r0 (1) (by omega) (by omega) s0
  clear bma0_0 bmr0
  obtain ⟨Khu0, fhu0⟩ := hu0
  obtain ⟨Ket0, fet0⟩ := et0
  obtain ⟨Kes, fes⟩ := es
  obtain ⟨Kei, fei⟩ := ei
  obtain ⟨Keq0, feq0⟩ := eq0
  obtain ⟨Kea0, fea0⟩ := ea0
  obtain ⟨Kema0, fema0⟩ := ema0
  obtain ⟨Kemr0, femr0⟩ := emr0
  obtain ⟨Keh0, feh0⟩ := eh0
  exact FnExactFarthestStates_walk _ _ _ _ _ _ _ _ _ _ _ _ Ket0 Kes Kei Keq0 Kea0 Kema0 Keh0 w hr0_0 hc0_0  (fhu0 _ (Nat.le_refl _)) nu0 (fet0 _ (Nat.le_refl _)) (fes _ (Nat.le_refl _)) (fei _ (Nat.le_refl _)) (feq0 _ (Nat.le_refl _)) (fea0 _ (Nat.le_refl _)) (fema0 _ (Nat.le_refl _)) na0_0 (femr0 _ (Nat.le_refl _)) (feh0 _ (Nat.le_refl _)) nr0
end Go.Proofs.Ytihieplobgehaaa.Pure
