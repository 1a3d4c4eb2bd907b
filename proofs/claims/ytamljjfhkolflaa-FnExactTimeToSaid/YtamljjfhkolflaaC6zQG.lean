import Derived.Test.YtamljjfhkolflaaC6zx0
import Derived.Test.YtamljjfhkolflaaC6zx2
import Derived.Test.YtamljjfhkolflaaC6zx3
import Derived.Test.YtamljjfhkolflaaC6zx6
import Derived.Test.YtamljjfhkolflaaC6zx7
import Derived.Test.YtamljjfhkolflaaC6zx8
import Derived.Test.YtamljjfhkolflaaC6zx9
import Derived.Test.YtamljjfhkolflaaC6zH0
import Derived.Test.YtamljjfhkolflaaC6zH1
import Derived.Test.YtamljjfhkolflaaC6zQ0
import Derived.Test.YtamljjfhkolflaaC6zQ1
import Derived.Test.YtamljjfhkolflaaC6zQ2
import Derived.Test.YtamljjfhkolflaaC6zQ3
import Derived.Test.YtamljjfhkolflaaC6zQ4
import Derived.Test.YtamljjfhkolflaaC6zQ5
import Derived.Test.YtamljjfhkolflaaC6zQS
namespace Go.Proofs.Ytamljjfhkolflaa.Pure
open Go.RowKit Go.Proofs.Ytamljjfhkolflaa.C6 Go.Proofs.Ytamljjfhkolflaa.H Go.Proofs.YtamljjfhkolflaaW.PrintWords Go.Proofs.YtamljjfhkolflaaW.PrintLast Go.Proofs.YtamljjfhkolflaaW.PrintMore
set_option linter.unusedVariables false
set_option linter.unusedSimpArgs false
def sideP (b : Bool) : List Bool → Nat → List Int
  | [], _ => []
  | x :: r, i => if x == b then (i : Int) :: sideP b r (i + 1) else sideP b r (i + 1)
theorem sideP_len (b : Bool) : ∀ (r : List Bool) (i : Nat), (sideP b r i).length ≤ r.length := by
  intro r
  induction r with
  | nil => intro i; simp [sideP]
  | cons x r ih =>
    intro i
    have := ih (i + 1)
    simp only [sideP]
    split <;> simp only [List.length_cons] <;> omega
theorem side_loop (b : Bool) : ∀ (r pre : List Bool) (acc : List Int), (pre ++ r).length ≤ 1048576 → acc.length + r.length ≤ 1048576 → Ev (fun k => impl_State_side.l0 k b acc (pre ++ r) ((pre ++ r).length : Int) (pre.length : Int)) (acc ++ sideP b r pre.length) := by
  intro r
  induction r with
  | nil =>
    intro pre acc hl ha
    refine Ev.step (f := fun _ => some _) (fun k => ?_) (Ev.now _)
    simp only [impl_State_side.l0]
    rw [if_neg (nlt_end pre)]
    simp [sideP]
  | cons x r ih =>
    intro pre acc hl ha
    simp only [List.length_cons] at ha
    cases hx : x == b with
    | true =>
      refine Ev.step (fun k => ?_) (ev_eq (ih (pre ++ [x]) (acc ++ [(pre.length : Int)]) (by simpa using hl) (by simp; omega)) (by simp [sideP, hx]))
      simp only [impl_State_side.l0]
      rw [if_pos (lt_mid pre x r), if_pos (zle _), if_pos (lt_mid pre x r), rdOf_mid, hx, if_pos rfl, if_pos (by omega), wr_mid pre x r (by omega), app_mid pre x r]
    | false =>
      refine Ev.step (fun k => ?_) (ev_eq (ih (pre ++ [x]) acc (by simpa using hl) (by omega)) (by simp [sideP, hx]))
      simp only [impl_State_side.l0]
      rw [if_pos (lt_mid pre x r), if_pos (zle _), if_pos (lt_mid pre x r), rdOf_mid, hx, if_neg (by simp), wr_mid pre x r (by omega), app_mid pre x r]
theorem side_ev (st : List Bool) (t b : Bool) (hs : st.length ≤ 1048576) : Ev (fun k => impl_State_side.f k st t b) (sideP b st 0) := side_loop b st [] [] (by simpa using hs) (by simpa using hs)
def begP : List Int → List (List Int)
  | [] => []
  | x :: l => [x :: l]
theorem begP_len (l : List Int) : (begP l).length ≤ 1 := by cases l <;> simp [begP]
theorem l1Own_eq (l : List Int) (h : l.length ≤ 1048576) : spec_l1Own.f l = some l := by
  unfold spec_l1Own.f
  rw [Option.bind_some, if_pos (by simp; omega)]
  simp
theorem grp_loop (lo : Nat) (m : Int) (ps : List Int) (hp : ps.length ≤ 20) (l : List Int) (hl : l.length ≤ 20) (hm : (l.length : Int) < m)
    (IH : ∀ (from_ : Nat) (l' : List Int), lo < from_ → from_ ≤ ps.length → l'.length = l.length + 1 → Ev (fun k => spec_paGroups.f k ps l' (from_ : Int) m) (begP l' ++ grpsF m (ps.drop from_) l')) :
    ∀ (d i : Nat) (acc : List (List Int)), ps.length - i = d → i ≤ ps.length → lo ≤ i → acc.length + 2 ^ d ≤ 4194304 → Ev (fun k => spec_paGroups.l0 k ps l m acc (i : Int)) (acc ++ grpsF m (ps.drop i) l) := by
  intro d
  induction d with
  | zero =>
    intro i acc hd hi hlo ha
    have : i = ps.length := by omega
    subst this
    refine Ev.step (f := fun _ => some _) (fun k => ?_) (Ev.now _)
    simp only [spec_paGroups.l0]
    rw [if_neg (by omega)]
    simp [grpsF]
  | succ d ih =>
    intro i acc hd hi hlo ha
    have hlt : i < ps.length := by omega
    have hdr : ps.drop i = rd ps (i : Nat) :: ps.drop (i + 1) := by
      rw [List.drop_eq_getElem_cons hlt]
      simp [rd, List.getD_eq_getElem?_getD, List.getElem?_eq_getElem hlt]
    have hg := IH (i + 1) (l ++ [rd ps (i : Nat)]) (by omega) (by omega) (by simp)
    have hlen : (begP (l ++ [rd ps (i : Nat)]) ++ grpsF m (ps.drop (i + 1)) (l ++ [rd ps (i : Nat)])).length ≤ 2 ^ d := by
      have h1 := grpsF_len m (ps.drop (i + 1)) (l ++ [rd ps (i : Nat)])
      have h2 := begP_len (l ++ [rd ps (i : Nat)])
      rw [List.length_drop, show ps.length - (i + 1) = d by omega] at h1
      rw [List.length_append]
      omega
    rw [Nat.pow_succ] at ha
    have hb : begP (l ++ [rd ps (i : Nat)]) = [l ++ [rd ps (i : Nat)]] := by cases l <;> rfl
    have he : acc ++ grpsF m (ps.drop i) l = (acc ++ (begP (l ++ [rd ps (i : Nat)]) ++ grpsF m (ps.drop (i + 1)) (l ++ [rd ps (i : Nat)]))) ++ grpsF m (ps.drop (i + 1)) l := by
      rw [hdr, grpsF, if_pos hm, hb]
      simp
    rw [he]
    refine Ev.step (f := fun k => (spec_paGroups.f k ps (l ++ [rd ps (i : Nat)]) ((i + 1 : Nat) : Int) m).bind fun t => (if acc.length + t.length < 5864062014805 then (spec_paGroups.l0 k ps l m (acc ++ t) ((i + 1 : Nat) : Int)) else (none))) (fun k => ?_) (Ev.bind hg ?_)
    · simp only [spec_paGroups.l0]
      rw [if_pos (by omega), show spec_l1Own.f l = some l from l1Own_eq l (by omega), Option.bind_some, if_pos (zle _), Option.bind_some, if_pos (by simp; omega), show wrap64 ((i : Int) + 1) = ((i + 1 : Nat) : Int) from wr_id (by omega) (by omega)]
    · try dsimp only
      have hc : acc.length + (begP (l ++ [rd ps (i : Nat)]) ++ grpsF m (ps.drop (i + 1)) (l ++ [rd ps (i : Nat)])).length < 5864062014805 := by
        have : 0 < 2 ^ d := Nat.pow_pos (by omega)
        omega
      simp only [if_pos hc]
      exact ih (i + 1) _ (by omega) (by omega) (by omega) (by rw [List.length_append]; omega)
theorem paGroups_ev (m : Int) (ps : List Int) (hp : ps.length ≤ 20) : ∀ (d from_ : Nat) (l : List Int), ps.length - from_ = d → from_ ≤ ps.length → l.length + d ≤ 20 → (l.length : Int) ≤ m → Ev (fun k => spec_paGroups.f k ps l (from_ : Int) m) (begP l ++ grpsF m (ps.drop from_) l) := by
  intro d
  induction d using Nat.strongRecOn with
  | ind d ih =>
  intro from_ l hd hf hl hm
  have hj : ∀ acc : List (List Int), acc.length ≤ 1 → Ev (fun k => spec_paGroups.j0 k ps l (from_ : Int) m acc) (acc ++ grpsF m (ps.drop from_) l) := by
    intro acc ha
    by_cases hc : (l.length : Int) = m
    · refine Ev.step (f := fun _ => some acc) (fun k => ?_) (ev_eq (Ev.now _) ?_)
      · simp only [spec_paGroups.j0]
        rw [if_pos hc]
      · cases ps.drop from_ with
        | nil => simp [grpsF]
        | cons x r => rw [grpsF, if_neg (by omega)]; simp
    · refine Ev.step (f := fun k => spec_paGroups.l0 k ps l m acc (from_ : Int)) (fun k => ?_) ?_
      · simp only [spec_paGroups.j0]
        rw [if_neg hc]
      · refine grp_loop from_ m ps hp l (by omega) (by omega) (fun f' l' h0 h1 h2 => ?_) d from_ acc hd hf (Nat.le_refl _) ?_
        · exact ih (ps.length - f') (by omega) f' l' rfl h1 (by omega) (by omega)
        · have : 2 ^ d ≤ 2 ^ 20 := Nat.pow_le_pow_right (by omega) (by omega)
          omega
  cases l with
  | nil =>
    refine Ev.step (f := fun k => spec_paGroups.j0 k ps [] (from_ : Int) m []) (fun k => ?_) (hj [] (by simp))
    simp [spec_paGroups.f]
  | cons x l =>
    refine Ev.step (f := fun k => spec_paGroups.j0 k ps (x :: l) (from_ : Int) m [x :: l]) (fun k => ?_) (hj [x :: l] (by simp))
    simp only [spec_paGroups.f]
    rw [if_pos (by simp only [List.length_cons]; omega), show spec_l1Own.f (x :: l) = some (x :: l) from l1Own_eq _ (by omega), Option.bind_some, Option.bind_some, if_pos (by simp)]
    simp
theorem hasStateP_ev (l : List Int) (s : Int) (st : List Bool) (b : Bool) (hs : st.length ≤ 1048576) : Ev (fun k => impl_Party_hasState.f k l s st b) (goodP l s && stateP l.length st b) := by
  unfold impl_Party_hasState.f
  refine Ev.bind (ev_some (isParty_eq l s)) ?_
  cases goodP l s with
  | false => exact Ev.now _
  | true =>
    simp only [if_true, Bool.true_and]
    exact Ev.bind (isStateOf_ev l.length st b hs) (Ev.now _)
theorem paAsked_ev (l : List Int) (s : Int) (st : List Bool) (b : Bool) (hl : l.length ≤ 1048576) (hs : st.length ≤ 1048576) : Ev (fun k => spec_paAsked.f k l s st b) (goodP l s && stateP l.length st b) := by
  unfold spec_paAsked.f
  refine Ev.bind (paGood_ev l s hl) ?_
  cases goodP l s with
  | false => exact Ev.now _
  | true =>
    simp only [if_true, Bool.true_and]
    exact Ev.bind (paState_ev l s st b hs) (Ev.now _)
def tripsP (s : Int) (st : List Bool) (b : Bool) : List (List Int) := grpsF s (sideP b st 0) []
theorem paTrips_loop (s : Int) (st : List Bool) (b : Bool) (y0 : List Int) (z0 : List Bool) (hs1 : 1 ≤ s) : ∀ (r pre : List Bool) (acc : List Int), (pre ++ r).length ≤ 1048576 → acc.length + r.length ≤ 20 → Ev (fun k => spec_paTrips.l0 k acc (pre ++ r) ((pre ++ r).length : Int) (pre.length : Int) y0 s z0 b) (grpsF s (acc ++ sideP b r pre.length) []) := by
  intro r
  induction r with
  | nil =>
    intro pre acc hl ha
    simp only [List.length_nil, Nat.add_zero] at ha
    have hg := paGroups_ev s acc ha acc.length 0 [] (by omega) (by omega) (by simpa using ha) (by simp; omega)
    refine Ev.step (f := fun k => (spec_paGroups.f k acc ([] : List Int) ((0 : Nat) : Int) s).bind fun t => some t) (fun k => ?_) (ev_eq (Ev.bind hg (Ev.now _)) (by simp [begP, sideP]))
    simp only [spec_paTrips.l0]
    rw [if_neg (nlt_end pre)]
    rfl
  | cons x r ih =>
    intro pre acc hl ha
    simp only [List.length_cons] at ha
    cases hx : x == b with
    | true =>
      refine Ev.step (fun k => ?_) (ev_eq (ih (pre ++ [x]) (acc ++ [(pre.length : Int)]) (by simpa using hl) (by simp; omega)) (by simp [sideP, hx]))
      simp only [spec_paTrips.l0]
      rw [if_pos (lt_mid pre x r), if_pos (zle _), if_pos (lt_mid pre x r), rdOf_mid, hx, if_pos rfl, if_pos (by omega), wr_mid pre x r (by omega), app_mid pre x r]
    | false =>
      refine Ev.step (fun k => ?_) (ev_eq (ih (pre ++ [x]) acc (by simpa using hl) (by omega)) (by simp [sideP, hx]))
      simp only [spec_paTrips.l0]
      rw [if_pos (lt_mid pre x r), if_pos (zle _), if_pos (lt_mid pre x r), rdOf_mid, hx, if_neg (by simp), wr_mid pre x r (by omega), app_mid pre x r]
theorem paTrips_ev (l : List Int) (s : Int) (st : List Bool) (b : Bool) (hs1 : 1 ≤ s) (hs : st.length ≤ 20) : Ev (fun k => spec_paTrips.f k l s st b) (tripsP s st b) := paTrips_loop s st b l st hs1 st [] [] (by simp; omega) (by simpa using hs)
end Go.Proofs.Ytamljjfhkolflaa.Pure
