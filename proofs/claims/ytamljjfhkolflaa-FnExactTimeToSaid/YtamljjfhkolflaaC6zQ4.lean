import Derived.Test.YtamljjfhkolflaaC6zx0
import Derived.Test.YtamljjfhkolflaaC6zx4
import Derived.Test.YtamljjfhkolflaaC6zx6
import Derived.Test.YtamljjfhkolflaaC6zx7
import Derived.Test.YtamljjfhkolflaaC6zx9
import Derived.Test.YtamljjfhkolflaaC6zH0
import Derived.Test.YtamljjfhkolflaaC6zH1
import Derived.Test.YtamljjfhkolflaaC6zQ0
import Derived.Test.YtamljjfhkolflaaC6zQ1
import Derived.Test.YtamljjfhkolflaaC6zQ2
import Derived.Test.YtamljjfhkolflaaC6zQ3
namespace Go.Proofs.Ytamljjfhkolflaa.Pure
open Go.RowKit Go.Proofs.Ytamljjfhkolflaa.C6 Go.Proofs.Ytamljjfhkolflaa.H Go.Proofs.YtamljjfhkolflaaW.PrintWords Go.Proofs.YtamljjfhkolflaaW.PrintLast Go.Proofs.YtamljjfhkolflaaW.PrintMore
set_option linter.unusedVariables false
set_option linter.unusedSimpArgs false
def goodP (l : List Int) (s : Int) : Bool := inB 1 8 (l.length : Int) && l.all (inB 1 1000) && inB 1 3 s
theorem isParty_eq (l : List Int) (s : Int) : impl_IsParty.f l s = some (goodP l s) := by
  unfold impl_IsParty.f goodP
  rw [areIn_eq, in_eq]
  cases inB 1 8 (l.length : Int) <;> cases l.all (inB 1 1000) <;> cases inB 1 3 s <;> rfl
theorem paGood_ev (l : List Int) (s : Int) (hl : l.length ≤ 1048576) : Ev (fun k => spec_paGood.f k l s) (goodP l s) := by
  obtain ⟨K, e⟩ := l1All_ev l 1 1000 (by omega)
  refine ⟨K, fun k hk => ?_⟩
  unfold spec_paGood.f goodP
  simp only [l1In_eq, e k hk, Option.bind_some]
  cases inB 1 8 (l.length : Int) <;> cases l.all (inB 1 1000) <;> cases inB 1 3 s <;> rfl
def mv (v : Bool) : List Int → List Bool → List Bool
  | [], o => o
  | x :: r, o => mv v r (o.set x.toNat v)
theorem mv_len (v : Bool) (t : List Int) : ∀ o : List Bool, (mv v t o).length = o.length := by
  induction t with
  | nil => intro o; rfl
  | cons x r ih => intro o; simp only [mv]; rw [ih]; simp
theorem moved_loop (v : Bool) : ∀ (r pre : List Int) (o : List Bool), (pre ++ r).length ≤ 9223372036854775807 → (∀ x ∈ r, 0 ≤ x ∧ x < (o.length : Int)) → Ev (fun k => impl_State_moved.l0 k (pre ++ r) ((pre ++ r).length : Int) (pre.length : Int) o v) (mv v r o, v) := by
  intro r
  induction r with
  | nil =>
    intro pre o hl hi
    refine Ev.step (f := fun _ => some _) (fun k => ?_) (Ev.now _)
    simp only [impl_State_moved.l0]
    rw [if_neg (nlt_end pre)]
    rfl
  | cons x r ih =>
    intro pre o hl hi
    have hx := hi x (by simp)
    refine Ev.step (fun k => ?_) (ih (pre ++ [x]) (o.set x.toNat v) (by simpa using hl) (fun y hy => by have := hi y (by simp [hy]); simpa using this))
    simp only [impl_State_moved.l0]
    rw [if_pos (lt_mid pre x r), if_pos (zle _), if_pos (lt_mid pre x r), rd_mid, if_pos hx.1, if_pos hx.2, wr_mid pre x r hl, app_mid pre x r]
theorem moved_ev (st : List Bool) (b : Bool) (t : List Int) (hs : st.length ≤ 1048576) (ht : t.length ≤ 1048576) (hi : ∀ x ∈ t, 0 ≤ x ∧ x < (st.length : Int)) : Ev (fun k => impl_State_moved.f k st b t) (mv (!b) t st, !b) := by
  unfold impl_State_moved.f
  refine Ev.bind (a := st) (ev_some (by unfold slices_Clone_bool_bool.f; rw [if_pos (by omega)])) ?_
  exact moved_loop (!b) t [] st (by simp; omega) hi
theorem paCross_loop (st : List Bool) (b c : Bool) : ∀ (r pre : List Int) (o : List Bool), (pre ++ r).length ≤ 9223372036854775807 → (∀ x ∈ r, 0 ≤ x ∧ x < (st.length : Int)) → (∀ x ∈ r, rdOf false st x = b) → o.length = st.length → Ev (fun k => spec_paCross.l0 k (pre ++ r) ((pre ++ r).length : Int) (pre.length : Int) st b o c) (mv (!b) r o, c) := by
  intro r
  induction r with
  | nil =>
    intro pre o hl hi hb ho
    refine Ev.step (f := fun _ => some _) (fun k => ?_) (Ev.now _)
    simp only [spec_paCross.l0]
    rw [if_neg (nlt_end pre)]
    rfl
  | cons x r ih =>
    intro pre o hl hi hb ho
    have hx := hi x (by simp)
    have hbx := hb x (by simp)
    refine Ev.step (fun k => ?_) (ih (pre ++ [x]) (o.set x.toNat (!b)) (by simpa using hl) (fun y hy => hi y (by simp [hy])) (fun y hy => hb y (by simp [hy])) (by simpa using ho))
    simp only [spec_paCross.l0]
    rw [if_pos (lt_mid pre x r), if_pos (zle _), if_pos (lt_mid pre x r), rd_mid, if_pos hx.1, if_pos hx.2, if_pos (by rw [ho]; exact hx.2), hbx, wr_mid pre x r hl, app_mid pre x r]
theorem paCross_ev (st : List Bool) (b : Bool) (t : List Int) (hs : st.length ≤ 1048576) (ht : t.length ≤ 1048576) (hi : ∀ x ∈ t, 0 ≤ x ∧ x < (st.length : Int)) (hb : ∀ x ∈ t, rdOf false st x = b) : Ev (fun k => spec_paCross.f k st b t) (mv (!b) t st, !b) := by
  unfold spec_paCross.f
  simp only [Option.bind_some, List.nil_append, List.length_nil, Nat.zero_add, if_pos (show st.length < 140737488355328 by omega)]
  exact paCross_loop st b (!b) t [] st (by simp; omega) hi hb rfl
theorem indexB_loop (x : Bool) : ∀ (r pre : List Bool), (pre ++ r).length ≤ 1048576 → ∃ v, Ev (fun k => slices_Index_bool_bool.l0 k (pre ++ r) x ((pre ++ r).length : Int) (pre.length : Int)) v ∧ (decide (v ≥ 0) = r.any (fun y => x == y)) := by
  intro r
  induction r with
  | nil =>
    intro pre hl
    refine ⟨-1, Ev.step (f := fun _ => some _) (fun k => ?_) (Ev.now _), rfl⟩
    simp only [slices_Index_bool_bool.l0]
    rw [if_neg (nlt_end pre)]
  | cons y r ih =>
    intro pre hl
    by_cases c : (x == y) = true
    · refine ⟨(pre.length : Int), Ev.step (f := fun _ => some _) (fun k => ?_) (Ev.now _), by simp [c]⟩
      simp only [slices_Index_bool_bool.l0]
      rw [if_pos (lt_mid pre y r), if_pos (zle _), if_pos (lt_mid pre y r), rdOf_mid, if_pos c]
    · obtain ⟨v, hv, hd⟩ := ih (pre ++ [y]) (by simpa using hl)
      refine ⟨v, Ev.step (fun k => ?_) hv, by simp only [List.any_cons, c, Bool.false_or]; exact hd⟩
      simp only [slices_Index_bool_bool.l0]
      rw [if_pos (lt_mid pre y r), if_pos (zle _), if_pos (lt_mid pre y r), rdOf_mid, if_neg c, wr_mid pre y r (by omega), app_mid pre y r]
theorem containsB_ev (l : List Bool) (x : Bool) (hl : l.length ≤ 1048576) : Ev (fun k => slices_Contains_bool_bool.f k l x) (l.any fun y => x == y) := by
  obtain ⟨v, hv, hd⟩ := indexB_loop x l [] (by simpa using hl)
  unfold slices_Contains_bool_bool.f
  exact Ev.bind hv (ev_eq (Ev.now _) hd)
end Go.Proofs.Ytamljjfhkolflaa.Pure
