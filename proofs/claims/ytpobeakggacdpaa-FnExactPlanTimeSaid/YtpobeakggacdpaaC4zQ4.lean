import Derived.Test.YtpobeakggacdpaaC4zx0
import Derived.Test.YtpobeakggacdpaaC4zx2
import Derived.Test.YtpobeakggacdpaaC4zx3
import Derived.Test.YtpobeakggacdpaaC4zx4
import Derived.Test.YtpobeakggacdpaaC4zx5
import Derived.Test.YtpobeakggacdpaaC4zx6
import Derived.Test.YtpobeakggacdpaaC4zx7
import Derived.Test.YtpobeakggacdpaaC4zx8
import Derived.Test.YtpobeakggacdpaaC4zx9
import Derived.Test.YtpobeakggacdpaaC4zH0
import Derived.Test.YtpobeakggacdpaaC4zH1
import Derived.Test.YtpobeakggacdpaaC4zQ0
import Derived.Test.YtpobeakggacdpaaC4zQ1
import Derived.Test.YtpobeakggacdpaaC4zQ2
import Derived.Test.YtpobeakggacdpaaC4zQ3
namespace Go.Proofs.Ytpobeakggacdpaa.Pure
open Go.RowKit Go.Proofs.Ytpobeakggacdpaa.C4 Go.Proofs.Ytpobeakggacdpaa.H Go.Proofs.YtpobeakggacdpaaW.PrintWords Go.Proofs.YtpobeakggacdpaaW.PrintLast Go.Proofs.YtpobeakggacdpaaW.PrintMore
set_option linter.unusedVariables false
set_option linter.unusedSimpArgs false
def goodP (l : List Int) (s : Int) : Bool := inB 1 8 (l.length : Int) && l.all (inB 1 1000) && inB 1 3 s
theorem goodP_len {l : List Int} {s : Int} (h : goodP l s = true) : l.length ≤ 8 := by
  unfold goodP at h
  simp only [Bool.and_eq_true] at h
  have := h.1.1
  simp only [inB, Bool.and_eq_true, decide_eq_true_eq] at this
  omega
theorem isParty_eq (l : List Int) (s : Int) : impl_IsParty.f l s = some (goodP l s) := by
  unfold impl_IsParty.f goodP
  rw [areIn_eq, in_eq]
  cases inB 1 8 (l.length : Int) <;> cases l.all (inB 1 1000) <;> cases inB 1 3 s <;> rfl
theorem paGood_ev (l : List Int) (s : Int) (hl : l.length ≤ 1048576) : Ev (fun k => spec_paGood.f k l s) (goodP l s) := by
  obtain ⟨K, e⟩ := l1All_ev l 1 1000 (by omega)
  refine ⟨K, fun k hk => ?_⟩
  unfold spec_paGood.f goodP
  simp only [l1In_eq, e k hk, Option.bind_some]
  cases inB 1 8 (l.length : Int) <;> cases l.all (inB 1 1000) <;> cases inB 1 3 s <;> rfl
theorem isTrip_ev (l : List Int) (s : Int) (t : List Int) (hl : l.length ≤ 1048576) (ht : t.length ≤ 1048576) : Ev (fun k => impl_Party_isTrip.f k l s t) (tripP l.length s t) := by
  obtain ⟨K, e⟩ := rises_ev t (by omega)
  refine ⟨K, fun k hk => ?_⟩
  unfold impl_Party_isTrip.f tripP
  simp only [areIn_eq, e k hk, Option.bind_some, wr_id (show -9223372036854775808 ≤ (l.length : Int) - 1 by omega) (by omega)]
  cases inB 1 s (t.length : Int) <;> cases t.all (inB 0 ((l.length : Int) - 1)) <;> cases risP t <;> rfl
theorem paTrip_ev (l : List Int) (s : Int) (t : List Int) (hl : l.length ≤ 1048576) (ht : t.length ≤ 1048576) : Ev (fun k => spec_paTrip.f k l s t) (tripP l.length s t) := by
  obtain ⟨K, e⟩ := l1Rising_ev t 0 ((l.length : Int) - 1) (by omega)
  refine ⟨K, fun k hk => ?_⟩
  unfold spec_paTrip.f tripP
  simp only [l1In_eq, wr_id (show -9223372036854775808 ≤ (l.length : Int) - 1 by omega) (by omega), e k hk, Option.bind_some]
  cases inB 1 s (t.length : Int) <;> cases t.all (inB 0 ((l.length : Int) - 1)) <;> cases risP t <;> rfl
def canP (n : Nat) (s : Int) (st : List Bool) (b : Bool) (t : List Int) : Bool := tripP n s t && t.all fun x => rdOf false st x == b
theorem tripP_in {n : Nat} {s : Int} {t : List Int} (h : tripP n s t = true) : ∀ x ∈ t, 0 ≤ x ∧ x < (n : Int) := by
  unfold tripP at h
  simp only [Bool.and_eq_true, List.all_eq_true] at h
  intro x hx
  have := h.1.2 x hx
  simp only [inB, Bool.and_eq_true, decide_eq_true_eq] at this
  omega
theorem are_eq (st : List Bool) (b : Bool) (t : List Int) (c : Bool) (h : ∀ x ∈ t, 0 ≤ x ∧ x < (st.length : Int)) : impl_State_are.f st b t c = some (t.all fun x => rdOf false st x == c) := by
  unfold impl_State_are.f
  rw [if_pos]
  rw [List.all_eq_true]
  intro x hx
  have := h x hx
  simp [this.1, this.2]
theorem canCross_ev (l : List Int) (s : Int) (st : List Bool) (b : Bool) (t : List Int) (hl : l.length ≤ 1048576) (ht : t.length ≤ 1048576) (hs : st.length = l.length) : Ev (fun k => impl_Party_canCross.f k l s st b t) (canP l.length s st b t) := by
  obtain ⟨K, e⟩ := isTrip_ev l s t hl ht
  refine ⟨K, fun k hk => ?_⟩
  unfold impl_Party_canCross.f canP
  simp only [e k hk, Option.bind_some]
  cases h : tripP l.length s t with
  | false => rfl
  | true =>
    rw [if_pos rfl, are_eq st b t b (by rw [hs]; exact tripP_in h)]
    rfl
theorem paCan_loop (st : List Bool) (b : Bool) : ∀ (r pre : List Int), (pre ++ r).length ≤ 9223372036854775807 → (∀ x ∈ r, 0 ≤ x ∧ x < (st.length : Int)) → Ev (fun k => spec_paCan.l0 k (pre ++ r) ((pre ++ r).length : Int) (pre.length : Int) st b) (r.all fun x => rdOf false st x == b) := by
  intro r
  induction r with
  | nil =>
    intro pre hl hi
    refine Ev.step (f := fun _ => some true) (fun k => ?_) (Ev.now _)
    simp only [spec_paCan.l0]
    rw [if_neg (nlt_end pre)]
  | cons x r ih =>
    intro pre hl hi
    have hx := hi x (by simp)
    by_cases c : rdOf false st x = b
    · refine Ev.step (fun k => ?_) (ev_eq (ih (pre ++ [x]) (by simpa using hl) (fun y hy => hi y (by simp [hy]))) (by simp [c]))
      simp only [spec_paCan.l0]
      rw [if_pos (lt_mid pre x r), if_pos (zle _), if_pos (lt_mid pre x r), rd_mid, if_pos hx.1, if_pos hx.2, if_neg (by simp [c]), wr_mid pre x r hl, app_mid pre x r]
    · refine Ev.step (f := fun _ => some false) (fun k => ?_) (ev_eq (Ev.now _) (by simp [c]))
      simp only [spec_paCan.l0]
      rw [if_pos (lt_mid pre x r), if_pos (zle _), if_pos (lt_mid pre x r), rd_mid, if_pos hx.1, if_pos hx.2, if_pos (by simpa using c)]
theorem paCan_ev (l : List Int) (s : Int) (st : List Bool) (b : Bool) (t : List Int) (hl : l.length ≤ 1048576) (ht : t.length ≤ 1048576) (hs : st.length = l.length) : Ev (fun k => spec_paCan.f k l s st b t) (canP l.length s st b t) := by
  unfold spec_paCan.f canP
  refine Ev.bind (paTrip_ev l s t hl ht) ?_
  cases h : tripP l.length s t with
  | false => exact Ev.now _
  | true =>
    simp only [if_true, Bool.true_and]
    exact paCan_loop st b t [] (by simp; omega) (by rw [hs]; exact tripP_in h)
def mv (v : Bool) : List Int → List Bool → List Bool
  | [], o => o
  | x :: r, o => mv v r (o.set x.toNat v)
theorem mv_len (v : Bool) (t : List Int) : ∀ o : List Bool, (mv v t o).length = o.length := by
  induction t with
  | nil => intro o; rfl
  | cons x r ih => intro o; simp only [mv]; rw [ih]; simp
theorem moved_loop (v : Bool) : ∀ (r pre : List Int) (o : List Bool), (pre ++ r).length ≤ 9223372036854775807 → (∀ x ∈ r, 0 ≤ x ∧ x < (o.length : Int)) → Ev (fun k => impl_State_moved.l0 k (pre ++ r) ((pre ++ r).length : Int) (pre.length : Int) o v) (mv v r o, v) := by
  intro r
  induction r with
  | nil =>
    intro pre o hl hi
    refine Ev.step (f := fun _ => some _) (fun k => ?_) (Ev.now _)
    simp only [impl_State_moved.l0]
    rw [if_neg (nlt_end pre)]
    rfl
  | cons x r ih =>
    intro pre o hl hi
    have hx := hi x (by simp)
    refine Ev.step (fun k => ?_) (ih (pre ++ [x]) (o.set x.toNat v) (by simpa using hl) (fun y hy => by have := hi y (by simp [hy]); simpa using this))
    simp only [impl_State_moved.l0]
    rw [if_pos (lt_mid pre x r), if_pos (zle _), if_pos (lt_mid pre x r), rd_mid, if_pos hx.1, if_pos hx.2, wr_mid pre x r hl, app_mid pre x r]
theorem moved_ev (st : List Bool) (b : Bool) (t : List Int) (hs : st.length ≤ 1048576) (ht : t.length ≤ 1048576) (hi : ∀ x ∈ t, 0 ≤ x ∧ x < (st.length : Int)) : Ev (fun k => impl_State_moved.f k st b t) (mv (!b) t st, !b) := by
  unfold impl_State_moved.f
  refine Ev.bind (a := st) (ev_some (by unfold slices_Clone_bool_bool.f; rw [if_pos (by omega)])) ?_
  exact moved_loop (!b) t [] st (by simp; omega) hi
theorem paCross_loop (st : List Bool) (b c : Bool) : ∀ (r pre : List Int) (o : List Bool), (pre ++ r).length ≤ 9223372036854775807 → (∀ x ∈ r, 0 ≤ x ∧ x < (st.length : Int)) → (∀ x ∈ r, rdOf false st x = b) → o.length = st.length → Ev (fun k => spec_paCross.l0 k (pre ++ r) ((pre ++ r).length : Int) (pre.length : Int) st b o c) (mv (!b) r o, c) := by
  intro r
  induction r with
  | nil =>
    intro pre o hl hi hb ho
    refine Ev.step (f := fun _ => some _) (fun k => ?_) (Ev.now _)
    simp only [spec_paCross.l0]
    rw [if_neg (nlt_end pre)]
    rfl
  | cons x r ih =>
    intro pre o hl hi hb ho
    have hx := hi x (by simp)
    have hbx := hb x (by simp)
    refine Ev.step (fun k => ?_) (ih (pre ++ [x]) (o.set x.toNat (!b)) (by simpa using hl) (fun y hy => hi y (by simp [hy])) (fun y hy => hb y (by simp [hy])) (by simpa using ho))
    simp only [spec_paCross.l0]
    rw [if_pos (lt_mid pre x r), if_pos (zle _), if_pos (lt_mid pre x r), rd_mid, if_pos hx.1, if_pos hx.2, if_pos (by rw [ho]; exact hx.2), hbx, wr_mid pre x r hl, app_mid pre x r]
theorem paCross_ev (st : List Bool) (b : Bool) (t : List Int) (hs : st.length ≤ 1048576) (ht : t.length ≤ 1048576) (hi : ∀ x ∈ t, 0 ≤ x ∧ x < (st.length : Int)) (hb : ∀ x ∈ t, rdOf false st x = b) : Ev (fun k => spec_paCross.f k st b t) (mv (!b) t st, !b) := by
  unfold spec_paCross.f
  simp only [Option.bind_some, List.nil_append, List.length_nil, Nat.zero_add, if_pos (show st.length < 140737488355328 by omega)]
  exact paCross_loop st b (!b) t [] st (by simp; omega) hi hb rfl
theorem canP_in {n : Nat} {s : Int} {st : List Bool} {b : Bool} {t : List Int} (h : canP n s st b t = true) : (∀ x ∈ t, 0 ≤ x ∧ x < (n : Int)) ∧ ∀ x ∈ t, rdOf false st x = b := by
  unfold canP at h
  simp only [Bool.and_eq_true] at h
  refine ⟨tripP_in h.1, ?_⟩
  have := List.all_eq_true.1 h.2
  intro x hx
  simpa using this x hx
def play (n : Nat) (s : Int) : List (List Int) → List Bool → Bool → Option (List Bool × Bool)
  | [], st, b => some (st, b)
  | t :: ts, st, b => if canP n s st b t then play n s ts (mv (!b) t st) (!b) else none
theorem play_len {n : Nat} {s : Int} : ∀ (ts : List (List Int)) (st : List Bool) (b : Bool) (o : List Bool) (c : Bool), play n s ts st b = some (o, c) → o.length = st.length := by
  intro ts
  induction ts with
  | nil => intro st b o c h; cases h; rfl
  | cons t ts ih =>
    intro st b o c h
    simp only [play] at h
    by_cases q : canP n s st b t = true
    · rw [if_pos q] at h
      rw [ih _ _ _ _ h, mv_len]
    · rw [if_neg q] at h; cases h
theorem play_in {n : Nat} {s : Int} : ∀ (ts : List (List Int)) (st : List Bool) (b : Bool) (r : List Bool × Bool), play n s ts st b = some r → ∀ t ∈ ts, ∀ x ∈ t, 0 ≤ x ∧ x < (n : Int) := by
  intro ts
  induction ts with
  | nil => intro st b r h t ht; cases ht
  | cons t ts ih =>
    intro st b r h
    simp only [play] at h
    by_cases q : canP n s st b t = true
    · rw [if_pos q] at h
      intro t' ht'
      rcases List.mem_cons.1 ht' with rfl | ht'
      · exact (canP_in q).1
      · exact ih _ _ _ h t' ht'
    · rw [if_neg q] at h; cases h
theorem failing_loop (l : List Int) (s : Int) (hl : l.length ≤ 1048576) : ∀ (r pre : List (List Int)) (st : List Bool) (b : Bool), (pre ++ r).length ≤ 1048576 → (∀ t ∈ r, t.length ≤ 1048576) → st.length = l.length → ∃ v, Ev (fun k => impl_Party_failing.l0 k (pre ++ r) ((pre ++ r).length : Int) (pre.length : Int) l s st b) v ∧ (match play l.length s r st b with | none => 0 ≤ v.2.2 | some (o, c) => v = (o, c, -1)) := by
  intro r
  induction r with
  | nil =>
    intro pre st b hn ht hs
    refine ⟨(st, b, -1), ?_, rfl⟩
    refine Ev.step (f := fun k => (impl_State_moved.f k st b ([] : List Int)).bind fun bt350 => ((impl_State_moved.f k bt350.1 bt350.2 ([] : List Int)).bind fun bt354 => (some (bt354.1, bt354.2, (-1))))) (fun k => ?_) (Ev.bind (moved_ev st b [] (by omega) (by simp) (by simp)) (Ev.bind (moved_ev _ (!b) [] (by simp [mv]; omega) (by simp) (by simp)) ?_))
    · simp only [impl_Party_failing.l0]
      rw [if_neg (nlt_end pre)]
    · exact ev_eq (Ev.now _) (by simp [mv])
  | cons t r ih =>
    intro pre st b hn ht hs
    have h1 := ht t (by simp)
    have hc := canCross_ev l s st b t hl h1 hs
    cases q : canP l.length s st b t with
    | false =>
      refine ⟨(st, b, (pre.length : Int)), Ev.step (fun k => ?_) (Ev.bind (f := fun k t359 => if t359 = true then ((impl_State_moved.f k st b t).bind fun bt360 => (impl_Party_failing.l0 k (pre ++ t :: r) ((pre ++ t :: r).length : Int) (wrap64 ((pre.length : Int) + 1)) l s bt360.1 bt360.2)) else (some (st, b, (pre.length : Int)))) hc ?_), ?_⟩
      · simp only [impl_Party_failing.l0]
        rw [if_pos (lt_mid pre t r), if_pos (zle _), if_pos (lt_mid pre t r), rd_L2_mid]
      · rw [q]; exact Ev.now _
      · simp only [play, q]; exact zle _
    | true =>
      obtain ⟨hi, hb⟩ := canP_in q
      obtain ⟨v, hv, hm⟩ := ih (pre ++ [t]) (mv (!b) t st) (!b) (by simpa using hn) (fun y hy => ht y (by simp [hy])) (by rw [mv_len, hs])
      refine ⟨v, Ev.step (fun k => ?_) (Ev.bind (f := fun k t359 => if t359 = true then ((impl_State_moved.f k st b t).bind fun bt360 => (impl_Party_failing.l0 k (pre ++ t :: r) ((pre ++ t :: r).length : Int) (wrap64 ((pre.length : Int) + 1)) l s bt360.1 bt360.2)) else (some (st, b, (pre.length : Int)))) hc ?_), ?_⟩
      · simp only [impl_Party_failing.l0]
        rw [if_pos (lt_mid pre t r), if_pos (zle _), if_pos (lt_mid pre t r), rd_L2_mid]
      · simp only [q, if_true]
        refine Ev.bind (moved_ev st b t (by omega) h1 (by rw [hs]; exact hi)) ?_
        dsimp only
        rw [wr_mid pre t r (by omega), app_mid pre t r]
        exact hv
      · simp only [play, q, if_true]; exact hm
theorem paPlay_loop (l : List Int) (s : Int) (x0 : List (List Int)) (hl : l.length ≤ 1048576) : ∀ (r pre : List (List Int)) (st : List Bool) (b : Bool), x0 = pre ++ r → (pre ++ r).length ≤ 1048576 → (∀ t ∈ r, t.length ≤ 1048576) → st.length = l.length → ∃ v, Ev (fun k => spec_paPlay.l0 k x0 (pre ++ r) ((pre ++ r).length : Int) (pre.length : Int) l s st b) v ∧ (match play l.length s r st b with | none => v.2.2 < (x0.length : Int) | some (o, c) => v = (o, c, (x0.length : Int))) := by
  intro r
  induction r with
  | nil =>
    intro pre st b e hn ht hs
    refine ⟨(st, b, (x0.length : Int)), ?_, rfl⟩
    refine Ev.step (f := fun k => some _) (fun k => ?_) (Ev.now _)
    simp only [spec_paPlay.l0]
    rw [if_neg (nlt_end pre)]
  | cons t r ih =>
    intro pre st b e hn ht hs
    have h1 := ht t (by simp)
    have hc := paCan_ev l s st b t hl h1 hs
    cases q : canP l.length s st b t with
    | false =>
      refine ⟨(st, b, (pre.length : Int)), Ev.step (fun k => ?_) (Ev.bind (f := fun k t279 => if t279 = true then ((spec_paCross.f k st b t).bind fun bt280 => (spec_paPlay.l0 k x0 (pre ++ t :: r) ((pre ++ t :: r).length : Int) (wrap64 ((pre.length : Int) + 1)) l s bt280.1 bt280.2)) else (some (st, b, (pre.length : Int)))) hc ?_), ?_⟩
      · simp only [spec_paPlay.l0]
        rw [if_pos (lt_mid pre t r), if_pos (zle _), if_pos (lt_mid pre t r), rd_L2_mid]
      · rw [q]; exact Ev.now _
      · simp only [play, q]; rw [e]; exact lt_mid pre t r
    | true =>
      obtain ⟨hi, hb⟩ := canP_in q
      obtain ⟨v, hv, hm⟩ := ih (pre ++ [t]) (mv (!b) t st) (!b) (by rw [e]; simp) (by simpa using hn) (fun y hy => ht y (by simp [hy])) (by rw [mv_len, hs])
      refine ⟨v, Ev.step (fun k => ?_) (Ev.bind (f := fun k t279 => if t279 = true then ((spec_paCross.f k st b t).bind fun bt280 => (spec_paPlay.l0 k x0 (pre ++ t :: r) ((pre ++ t :: r).length : Int) (wrap64 ((pre.length : Int) + 1)) l s bt280.1 bt280.2)) else (some (st, b, (pre.length : Int)))) hc ?_), ?_⟩
      · simp only [spec_paPlay.l0]
        rw [if_pos (lt_mid pre t r), if_pos (zle _), if_pos (lt_mid pre t r), rd_L2_mid]
      · simp only [q, if_true]
        refine Ev.bind (paCross_ev st b t (by omega) h1 (by rw [hs]; exact hi) hb) ?_
        dsimp only
        rw [wr_mid pre t r (by omega), app_mid pre t r]
        exact hv
      · simp only [play, q, if_true]; exact hm
theorem indexB_loop (x : Bool) : ∀ (r pre : List Bool), (pre ++ r).length ≤ 1048576 → ∃ v, Ev (fun k => slices_Index_bool_bool.l0 k (pre ++ r) x ((pre ++ r).length : Int) (pre.length : Int)) v ∧ (decide (v ≥ 0) = r.any (fun y => x == y)) := by
  intro r
  induction r with
  | nil =>
    intro pre hl
    refine ⟨-1, Ev.step (f := fun _ => some _) (fun k => ?_) (Ev.now _), rfl⟩
    simp only [slices_Index_bool_bool.l0]
    rw [if_neg (nlt_end pre)]
  | cons y r ih =>
    intro pre hl
    by_cases c : (x == y) = true
    · refine ⟨(pre.length : Int), Ev.step (f := fun _ => some _) (fun k => ?_) (Ev.now _), by simp [c]⟩
      simp only [slices_Index_bool_bool.l0]
      rw [if_pos (lt_mid pre y r), if_pos (zle _), if_pos (lt_mid pre y r), rdOf_mid, if_pos c]
    · obtain ⟨v, hv, hd⟩ := ih (pre ++ [y]) (by simpa using hl)
      refine ⟨v, Ev.step (fun k => ?_) hv, by simp only [List.any_cons, c, Bool.false_or]; exact hd⟩
      simp only [slices_Index_bool_bool.l0]
      rw [if_pos (lt_mid pre y r), if_pos (zle _), if_pos (lt_mid pre y r), rdOf_mid, if_neg c, wr_mid pre y r (by omega), app_mid pre y r]
theorem containsB_ev (l : List Bool) (x : Bool) (hl : l.length ≤ 1048576) : Ev (fun k => slices_Contains_bool_bool.f k l x) (l.any fun y => x == y) := by
  obtain ⟨v, hv, hd⟩ := indexB_loop x l [] (by simpa using hl)
  unfold slices_Contains_bool_bool.f
  exact Ev.bind hv (ev_eq (Ev.now _) hd)
def planP (n : Nat) (s : Int) (ts : List (List Int)) : Bool := if 40 < ts.length then false else match play n s ts (List.replicate n false) false with | none => false | some (o, c) => c && o.all id
theorem planP_in {n : Nat} {s : Int} {ts : List (List Int)} (h : planP n s ts = true) : ∀ t ∈ ts, ∀ x ∈ t, 0 ≤ x ∧ x < (n : Int) := by
  unfold planP at h
  by_cases c : 40 < ts.length
  · rw [if_pos c] at h; cases h
  · rw [if_neg c] at h
    cases hp : play n s ts (List.replicate n false) false with
    | none => rw [hp] at h; cases h
    | some r => exact play_in ts _ _ r hp
theorem isPlan_ev (l : List Int) (s : Int) (ts : List (List Int)) (hl : l.length ≤ 8) (hn : ts.length ≤ 1048576) (ht : ∀ t ∈ ts, t.length ≤ 1048576) : Ev (fun k => impl_Party_isPlan.f k l s ts) (planP l.length s ts) := by
  unfold impl_Party_isPlan.f planP
  by_cases c : 40 < ts.length
  · simp only [if_pos c, if_pos (show (ts.length : Int) > 40 by omega)]
    exact Ev.now _
  · simp only [if_neg c, if_neg (show ¬ (ts.length : Int) > 40 by omega)]
    have ha : impl_allAt.f (l.length : Int) false = some (List.replicate l.length false, false) := by
      unfold impl_allAt.f slices_Repeat_bool_bool.f
      rw [if_pos ⟨zle _, by omega, rfl⟩]
      simp [rdOf]
    refine Ev.bind (ev_some ha) ?_
    obtain ⟨v, hv, hm⟩ := failing_loop l s (by omega) ts [] (List.replicate l.length false) false (by simpa using hn) ht (by simp)
    refine Ev.bind (g := fun k => impl_Party_failing.f k l s (List.replicate l.length false) false ts) hv ?_
    cases hp : play l.length s ts (List.replicate l.length false) false with
    | none =>
      rw [hp] at hm
      simp only [if_neg (show ¬ v.2.2 < 0 from Int.not_lt.2 hm)]
      exact Ev.now _
    | some r =>
      obtain ⟨o, d⟩ := r
      rw [hp] at hm
      simp only at hm
      subst hm
      have ho := play_len ts _ _ o d hp
      simp only [if_pos (show (-1 : Int) < 0 by omega)]
      cases d with
      | false => exact Ev.now _
      | true =>
        simp only [if_true, Bool.true_and]
        refine Ev.bind (containsB_ev o false (by rw [ho]; simp; omega)) (ev_eq (Ev.now _) ?_)
        clear hv hp ho
        induction o with
        | nil => rfl
        | cons x o ih => cases x <;> simp_all
theorem paLast_loop (l : List Int) : ∀ (j i : Nat) (o : List Bool), i + j = l.length → l.length ≤ 1048576 → o = List.replicate i true → Ev (fun k => spec_paLast.l0 k (l.length : Int) (i : Int) o true) (List.replicate l.length true, true) := by
  intro j
  induction j with
  | zero =>
    intro i o h hl ho
    refine Ev.step (f := fun _ => some _) (fun k => ?_) (Ev.now _)
    simp only [spec_paLast.l0]
    rw [if_neg (by omega), ho, show i = l.length by omega]
  | succ j ih =>
    intro i o h hl ho
    refine Ev.step (fun k => ?_) (ih (i + 1) (o ++ [true]) (by omega) hl (by rw [ho, List.replicate_succ']))
    simp only [spec_paLast.l0]
    rw [if_pos (by omega), if_pos (by rw [ho]; simp; omega), wr_id (by omega) (by omega)]
    rfl
theorem paSame_loop (a b c d : List Bool) (x y : Bool) (hc : c.length ≤ 1048576) : ∀ (r pre s qre : List Bool), pre.length = qre.length → r.length = s.length → (pre ++ r).length ≤ 1048576 → Ev (fun k => spec_paSame.l0 k (pre ++ r) ((pre ++ r).length : Int) (pre.length : Int) a x (qre ++ s) y) (decide (r = s) && (x == y)) := by
  intro r
  induction r with
  | nil =>
    intro pre s qre hp hs hl
    obtain rfl : s = [] := List.eq_nil_of_length_eq_zero hs.symm
    refine Ev.step (f := fun _ => some _) (fun k => ?_) (Ev.now _)
    simp only [spec_paSame.l0]
    rw [if_neg (nlt_end pre)]
    simp
  | cons u r ih =>
    intro pre s qre hp hs hl
    match s, hs with
    | v :: s, hs =>
      by_cases e : u = v
      · subst e
        refine Ev.step (fun k => ?_) (ev_eq (ih (pre ++ [u]) s (qre ++ [u]) (by simp [hp]) (by simpa using hs) (by simpa using hl)) (by simp))
        simp only [spec_paSame.l0]
        rw [if_pos (lt_mid pre u r), if_pos (zle _), if_pos (lt_mid pre u r), if_pos (by rw [hp]; exact lt_mid qre u s), rdOf_mid, hp, rdOf_mid, if_neg (by simp), ← hp, wr_mid pre u r (by omega), app_mid pre u r, app_mid qre u s]
      · refine Ev.step (f := fun _ => some false) (fun k => ?_) (ev_eq (Ev.now _) (by simp [e]))
        simp only [spec_paSame.l0]
        rw [if_pos (lt_mid pre u r), if_pos (zle _), if_pos (lt_mid pre u r), if_pos (by rw [hp]; exact lt_mid qre v s), rdOf_mid, hp, rdOf_mid, if_pos (by simpa using e)]
theorem all_rep (o : List Bool) : o.all id = decide (o = List.replicate o.length true) := by
  induction o with
  | nil => rfl
  | cons x o ih =>
    rw [List.all_cons, ih, List.length_cons, List.replicate_succ]
    cases x <;> simp
theorem paPlan_ev (l : List Int) (s : Int) (ts : List (List Int)) (hl : l.length ≤ 8) (hn : ts.length ≤ 1048576) (ht : ∀ t ∈ ts, t.length ≤ 1048576) : Ev (fun k => spec_paPlan.f k l s ts) (planP l.length s ts) := by
  unfold spec_paPlan.f planP
  by_cases c : 40 < ts.length
  · simp only [if_pos c, if_pos (show (ts.length : Int) > 40 by omega)]
    exact Ev.now _
  · simp only [if_neg c, if_neg (show ¬ (ts.length : Int) > 40 by omega)]
    have ha : spec_paFirst.f l s = some (List.replicate l.length false, false) := by
      unfold spec_paFirst.f
      rw [if_pos (zle _), if_pos (show ((l.length : Int)).toNat ≤ 281474976710656 by omega), Int.toNat_natCast]
    refine Ev.bind (ev_some ha) ?_
    obtain ⟨v, hv, hm⟩ := paPlay_loop l s ts (by omega) ts [] (List.replicate l.length false) false rfl (by simpa using hn) ht (by simp)
    refine Ev.bind (g := fun k => spec_paPlay.f k l s (List.replicate l.length false) false ts) hv ?_
    cases hp : play l.length s ts (List.replicate l.length false) false with
    | none =>
      rw [hp] at hm
      simp only at hm
      simp only [if_neg (show ¬ v.2.2 = (ts.length : Int) by omega)]
      exact Ev.now _
    | some r =>
      obtain ⟨o, d⟩ := r
      rw [hp] at hm
      simp only at hm
      subst hm
      have ho := play_len ts _ _ o d hp
      rw [List.length_replicate] at ho
      simp only [if_true]
      refine Ev.bind (g := fun k => spec_paLast.f k l s) (paLast_loop l l.length 0 [] (by omega) (by omega) rfl) ?_
      dsimp only
      refine Ev.bind (g := fun k => spec_paSame.f k o d (List.replicate l.length true) true) (paSame_loop o [] [] [] d true (by simp) o [] (List.replicate l.length true) [] rfl (by simpa using ho) (by simp; omega)) (ev_eq (Ev.now _) ?_)
      rw [all_rep, ho]
      cases d <;> simp
end Go.Proofs.Ytpobeakggacdpaa.Pure
