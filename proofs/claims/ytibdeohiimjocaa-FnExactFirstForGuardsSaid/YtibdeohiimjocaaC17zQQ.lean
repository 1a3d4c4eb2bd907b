import Derived.Test.YtibdeohiimjocaaC17zx0
import Derived.Test.YtibdeohiimjocaaC17zH0
import Derived.Test.YtibdeohiimjocaaC17zH1
import Derived.Test.YtibdeohiimjocaaC17zx7
import Derived.Test.YtibdeohiimjocaaC17zx1
import Derived.Test.YtibdeohiimjocaaC17zx4
import Derived.Test.YtibdeohiimjocaaC17zx2
import Derived.Test.YtibdeohiimjocaaC17zx3
import Derived.Test.YtibdeohiimjocaaC17zx6
import Derived.Test.YtibdeohiimjocaaC17zx5
import Derived.Test.YtibdeohiimjocaaC17zx8
namespace Go.Proofs.Ytibdeohiimjocaa.Pure
open Go.RowKit Go.Proofs.Ytibdeohiimjocaa.C17 Go.Proofs.Ytibdeohiimjocaa.H Go.Proofs.YtibdeohiimjocaaW.PrintWords Go.Proofs.YtibdeohiimjocaaW.PrintLast Go.Proofs.YtibdeohiimjocaaW.PrintMore
set_option linter.unusedVariables false
set_option linter.unusedSimpArgs false
def szSum {α : Type} (f : α → Nat) : List α → Nat
  | [] => 0
  | x :: l => f x + szSum f l
def n2 (l : List (List Int)) : Nat := l.length + szSum List.length l
theorem szSum_bound {α : Type} (f : α → Nat) (l : List α) {B : Nat} (h : l.length + szSum f l ≤ B) : l.length ≤ B ∧ ∀ x ∈ l, f x ≤ B := by
  refine ⟨by omega, ?_⟩
  have h2 : szSum f l ≤ B := by omega
  clear h
  induction l with
  | nil => intro x hx; cases hx
  | cons y l ih =>
    simp only [szSum] at h2
    intro x hx
    rcases List.mem_cons.1 hx with rfl | hx
    · omega
    · exact ih (by omega) x hx
theorem mkS_bound (l : List Int) : ∀ a : Int, 0 ≤ a → a + l.length ≤ 1000000000000000 → a ≤ (mkS l a).1 ∧ (mkS l a).1 ≤ a + l.length := by
  induction l with
  | nil => intro a _ _; simp [mkS]
  | cons x l ih =>
    intro a h0 h1
    simp only [List.length_cons] at h1
    simp only [mkS]
    rw [wr_id (by omega) (by omega)]
    have := ih (a + 1) (by omega) (by omega)
    simp only [List.length_cons]
    omega
theorem mkS_len (l : List Int) : ∀ a : Int, (mkS l a).2.length = l.length := by
  induction l with
  | nil => intro a; rfl
  | cons x l ih => intro a; simp only [mkS, List.length_cons]; rw [ih]
theorem mkSS_len (l : List (List Int)) : ∀ a : Int, (mkSS l a).2.length = l.length := by
  induction l with
  | nil => intro a; rfl
  | cons x l ih => intro a; simp only [mkSS, List.length_cons]; rw [ih]
theorem mkSS_bound' (l : List (List Int)) : ∀ a : Int, 0 ≤ a → a + szSum List.length l ≤ 1000000000000000 → a ≤ (mkSS l a).1 ∧ (mkSS l a).1 ≤ a + szSum List.length l := by
  induction l with
  | nil => intro a _ _; simp [mkSS, szSum]
  | cons x l ih =>
    intro a h0 h1
    simp only [szSum] at h1
    have h2 := mkS_bound x a h0 (by omega)
    have := ih (mkS x a).1 (by omega) (by omega)
    simp only [mkSS, szSum]
    omega
theorem mkSS_bound (l : List (List Int)) (a : Int) (h0 : 0 ≤ a) (ha : a + n2 l ≤ 1000000000000000) : a ≤ (mkSS l a).1 ∧ (mkSS l a).1 ≤ a + n2 l := by
  simp only [n2] at ha ⊢
  have := mkSS_bound' l a h0 (by omega)
  omega
end Go.Proofs.Ytibdeohiimjocaa.Pure

namespace Go.Proofs.Ytibdeohiimjocaa.Pure
open Go.RowKit Go.Proofs.Ytibdeohiimjocaa.C17 Go.Proofs.Ytibdeohiimjocaa.H Go.Proofs.YtibdeohiimjocaaW.PrintWords Go.Proofs.YtibdeohiimjocaaW.PrintLast Go.Proofs.YtibdeohiimjocaaW.PrintMore
set_option linter.unusedVariables false
set_option linter.unusedSimpArgs false
theorem eqIntS_loop : ∀ (r s pre qre : List Int), pre.length = qre.length → r.length = s.length → (pre ++ r).length ≤ 9223372036854775807 → Ev (fun k => laws_eqIntS.l0 k (pre ++ r) (qre ++ s) (pre.length : Int)) (decide (r = s)) := by
  intro r
  induction r with
  | nil =>
    intro s pre qre hp hs hl
    obtain rfl : s = [] := List.eq_nil_of_length_eq_zero hs.symm
    refine Ev.step (f := fun _ => some _) (fun k => ?_) (Ev.now _)
    simp only [laws_eqIntS.l0]
    rw [if_neg (nlt_end pre)]
    rfl
  | cons x r ih =>
    intro s pre qre hp hs hl
    match s, hs with
    | y :: s, hs =>
      by_cases e : x = y
      · subst e
        refine Ev.step (fun k => ?_) (ev_eq (ih s (pre ++ [x]) (qre ++ [x]) (by simp [hp]) (by simpa using hs) (by simpa using hl)) (by simp))
        simp only [laws_eqIntS.l0]
        rw [if_pos (lt_mid pre x r), if_pos (zle _), if_pos (by rw [hp]; exact lt_mid qre x s), rd_mid, hp, rd_mid, if_pos rfl, ← hp, wr_mid pre x r hl, app_mid pre x r, app_mid qre x s]
      · refine Ev.step (f := fun _ => some _) (fun k => ?_) (Ev.now _)
        simp only [laws_eqIntS.l0]
        rw [if_pos (lt_mid pre x r), if_pos (zle _), if_pos (by rw [hp]; exact lt_mid qre y s), rd_mid, hp, rd_mid, if_neg e]
        simp [e]
theorem eqIntS_ev (l s : List Int) (hl : l.length ≤ 1048576) : Ev (fun k => laws_eqIntS.f k l s) (decide (l = s)) := by
  unfold laws_eqIntS.f
  by_cases h : l.length = s.length
  · simp only [if_pos (show (l.length : Int) = (s.length : Int) by omega)]
    exact eqIntS_loop l s [] [] rfl h (by simp; omega)
  · simp only [if_neg (show ¬ (l.length : Int) = (s.length : Int) by omega)]
    refine ev_eq (Ev.now _) ?_
    have : l ≠ s := fun e => h (by rw [e])
    simp [this]
theorem heldIntS_loop : ∀ (r pre : List Int) (a : Int), (pre ++ r).length ≤ 9223372036854775807 → Ev (fun k => laws_heldIntS.l0 k (pre ++ (mkS r a).2) a (pre.length : Int)) (mkS r a).1 := by
  intro r
  induction r with
  | nil =>
    intro pre a hl
    refine Ev.step (f := fun _ => some a) (fun k => ?_) (Ev.now _)
    show laws_heldIntS.l0 (k + 1) (pre ++ []) a (pre.length : Int) = some a
    simp only [laws_heldIntS.l0]
    rw [if_neg (nlt_end pre)]
  | cons x r ih =>
    intro pre a hl
    refine Ev.step (fun k => ?_) (ev_eq (ih (pre ++ [a]) (wrap64 (a + 1)) (by simpa using hl)) (by simp [mkS]))
    show laws_heldIntS.l0 (k + 1) (pre ++ (a) :: (mkS r (wrap64 (a + 1))).2) a (pre.length : Int) = _
    simp only [laws_heldIntS.l0]
    rw [if_pos (lt_mid pre (a) _), if_pos (zle _), rd_mid, if_pos rfl, wr_mid pre (a) _ (by simp [mkS_len] at hl ⊢; omega), app_mid pre (a)]
theorem heldIntS_ev (l : List Int) (a : Int) (h0 : 0 ≤ a) (ha : a + l.length ≤ 1000000000000000) (hl : l.length ≤ 1048576) : Ev (fun k => laws_heldIntS.f k (mkS l a).2 a) (mkS l a).1 := heldIntS_loop l [] a (by simp; omega)
theorem rd_L2_mid (pre : List (List Int)) (x : List Int) (r : List (List Int)) : rd_L1 (pre ++ x :: r) (pre.length : Int) = x := by simp [rd_L1]
theorem eqIntSS_loop : ∀ (r s pre qre : List (List Int)), pre.length = qre.length → r.length = s.length → (pre ++ r).length ≤ 9223372036854775807 → (∀ x ∈ r, List.length x ≤ 1048576) → Ev (fun k => laws_eqIntSS.l0 k (pre ++ r) (qre ++ s) (pre.length : Int)) (decide (r = s)) := by
  intro r
  induction r with
  | nil =>
    intro s pre qre hp hs hl hx
    obtain rfl : s = [] := List.eq_nil_of_length_eq_zero hs.symm
    refine Ev.step (f := fun _ => some _) (fun k => ?_) (Ev.now _)
    simp only [laws_eqIntSS.l0]
    rw [if_neg (nlt_end pre)]
    rfl
  | cons x r ih =>
    intro s pre qre hp hs hl hx
    match s, hs with
    | y :: s, hs =>
      refine Ev.step (f := fun k => (laws_eqIntS.f k x y).bind fun t => if t = true then laws_eqIntSS.l0 k (pre ++ x :: r) (qre ++ y :: s) (wrap64 ((pre.length : Int) + 1)) else some false) (fun k => ?_) (Ev.bind (eqIntS_ev x y (hx x (by simp))) ?_)
      · simp only [laws_eqIntSS.l0]
        rw [if_pos (lt_mid pre x r), if_pos (zle _), if_pos (by rw [hp]; exact lt_mid qre y s), rd_L2_mid, hp, rd_L2_mid, ← hp]
      · by_cases e : x = y
        · subst e
          simp only [decide_true, if_true]
          rw [wr_mid pre x r hl, app_mid pre x r, app_mid qre x s]
          exact ev_eq (ih s (pre ++ [x]) (qre ++ [x]) (by simp [hp]) (by simpa using hs) (by simpa using hl) (fun y hy => hx y (by simp [hy]))) (by simp)
        · simp only [decide_eq_false e, if_neg Bool.false_ne_true]
          exact ev_eq (Ev.now _) (by simp [e])
theorem eqIntSS_ev (l s : List (List Int)) (hl : n2 l ≤ 1048576) : Ev (fun k => laws_eqIntSS.f k l s) (decide (l = s)) := by
  have h1 := szSum_bound List.length l (by simpa only [n2] using hl)
  unfold laws_eqIntSS.f
  by_cases h : l.length = s.length
  · simp only [if_pos (show (l.length : Int) = (s.length : Int) by omega)]
    exact eqIntSS_loop l s [] [] rfl h (by simp; omega) h1.2
  · simp only [if_neg (show ¬ (l.length : Int) = (s.length : Int) by omega)]
    refine ev_eq (Ev.now _) ?_
    have : l ≠ s := fun e => h (by rw [e])
    simp [this]
theorem heldIntSS_loop : ∀ (r pre : List (List Int)) (a : Int), 0 ≤ a → a + szSum List.length r ≤ 1000000000000000 → (pre ++ r).length ≤ 9223372036854775807 → (∀ x ∈ r, List.length x ≤ 1048576) → Ev (fun k => laws_heldIntSS.l0 k (pre ++ (mkSS r a).2) a (pre.length : Int)) (mkSS r a).1 := by
  intro r
  induction r with
  | nil =>
    intro pre a h0 ha hl hx
    refine Ev.step (f := fun _ => some a) (fun k => ?_) (Ev.now _)
    show laws_heldIntSS.l0 (k + 1) (pre ++ []) a (pre.length : Int) = some a
    simp only [laws_heldIntSS.l0]
    rw [if_neg (nlt_end pre)]
  | cons x r ih =>
    intro pre a h0 ha hl hx
    simp only [szSum] at ha
    have hb := mkS_bound x a h0 (by omega)
    refine Ev.step (f := fun k => (laws_heldIntS.f k (mkS x a).2 a).bind fun t => if t < 0 then some (-1) else laws_heldIntSS.l0 k (pre ++ (mkS x a).2 :: (mkSS r (mkS x a).1).2) t (wrap64 ((pre.length : Int) + 1))) (fun k => ?_) (Ev.bind (heldIntS_ev x a h0 (by omega) (hx x (by simp))) ?_)
    · show laws_heldIntSS.l0 (k + 1) (pre ++ (mkS x a).2 :: (mkSS r (mkS x a).1).2) a (pre.length : Int) = _
      simp only [laws_heldIntSS.l0]
      rw [if_pos (lt_mid pre _ _), if_pos (zle _), rd_L2_mid]
    · simp only [if_neg (show ¬ (mkS x a).1 < 0 by omega)]
      rw [wr_mid pre _ _ (by simp [mkSS_len] at hl ⊢; omega), app_mid pre]
      exact ih (pre ++ [_]) _ (by omega) (by omega) (by simpa using hl) (fun y hy => hx y (by simp [hy]))
theorem heldIntSS_ev (l : List (List Int)) (a : Int) (h0 : 0 ≤ a) (ha : a + n2 l ≤ 1000000000000000) (hl : n2 l ≤ 1048576) : Ev (fun k => laws_heldIntSS.f k (mkSS l a).2 a) (mkSS l a).1 := by
  have h1 := szSum_bound List.length l (by simpa only [n2] using hl)
  exact heldIntSS_loop l [] a h0 (by simp only [n2] at ha; omega) (by simp; omega) h1.2
theorem markIntSS_ev (l : List (List Int)) (a : Int) : laws_markIntSS.f l a = some (mkSS l a) := rfl
end Go.Proofs.Ytibdeohiimjocaa.Pure

namespace Go.Proofs.Ytibdeohiimjocaa.Pure
open Go.RowKit Go.Proofs.Ytibdeohiimjocaa.C17 Go.Proofs.Ytibdeohiimjocaa.H Go.Proofs.YtibdeohiimjocaaW.PrintWords Go.Proofs.YtibdeohiimjocaaW.PrintLast Go.Proofs.YtibdeohiimjocaaW.PrintMore
set_option linter.unusedVariables false
set_option linter.unusedSimpArgs false
end Go.Proofs.Ytibdeohiimjocaa.Pure

namespace Go.Proofs.Ytibdeohiimjocaa.Pure
open Go.RowKit Go.Proofs.Ytibdeohiimjocaa.C17 Go.Proofs.Ytibdeohiimjocaa.H Go.Proofs.YtibdeohiimjocaaW.PrintWords Go.Proofs.YtibdeohiimjocaaW.PrintLast Go.Proofs.YtibdeohiimjocaaW.PrintMore
set_option linter.unusedVariables false
set_option linter.unusedSimpArgs false
theorem ev_up {α : Type} {f : Nat → Option α} (hm : ∀ k, LeO (f k) (f (k + 1))) {K : Nat} {r : α} (h : f K = some r) : Ev f r := by
  refine ⟨K, fun k hk => ?_⟩
  induction k with
  | zero => rw [show K = 0 by omega] at h; exact h
  | succ k ih =>
    by_cases e : K = k + 1
    · rw [← e]; exact h
    · exact hm k r (ih (by omega))
end Go.Proofs.Ytibdeohiimjocaa.Pure

namespace Go.Proofs.Ytibdeohiimjocaa.Pure
open Go.RowKit Go.Proofs.Ytibdeohiimjocaa.C17 Go.Proofs.Ytibdeohiimjocaa.H Go.Proofs.YtibdeohiimjocaaW.PrintWords Go.Proofs.YtibdeohiimjocaaW.PrintLast Go.Proofs.YtibdeohiimjocaaW.PrintMore
set_option linter.unusedVariables false
set_option linter.unusedSimpArgs false
theorem homeG_fill (x0 x1 x2 : Int) (R : List Int) : ∀ (n : Nat) (pre : List Int), (∀ v ∈ pre, v = -1) → pre.length + n ≤ 1000 → Ev (fun k => (spec_cuSpot.f x1 x0 x1 1).bind fun t110 => (if 0 ≤ t110 then (if t110 < ((List.replicate (pre.length + n) (-1 : Int)).length : Int) then (spec_cuHome.l1 k x0 x1 x2 ((List.replicate (pre.length + n) (-1 : Int)).set (t110 : Int).toNat 0) (([t110] : List Int)) 0) else (none)) else (none))) R →
    Ev (fun k => spec_cuHome.l0 k x0 x1 x2 (pre ++ List.replicate n 0) ((pre.length + n : Nat) : Int) (pre.length : Int)) R := by
  intro n
  induction n with
  | zero =>
    intro pre hp hl h
    have e : pre = List.replicate (pre.length + 0) (-1) := List.eq_replicate_iff.2 ⟨by simp, hp⟩
    refine Ev.step (fun k => spec_cuHome.l0.eq_2 ..) ?_
    rw [show pre ++ List.replicate 0 0 = pre by simp]
    rw [← e] at h
    simp only [if_neg (show ¬ (pre.length : Int) < ((pre.length + 0 : Nat) : Int) by omega)]
    exact h
  | succ n ih =>
    intro pre hp hl h
    refine Ev.step (fun k => spec_cuHome.l0.eq_2 ..) ?_
    rw [List.replicate_succ, set_mid, wr_id (a := (pre.length : Int) + 1) (by omega) (by omega)]
    simp only [if_pos (show (pre.length : Int) < ((pre.length + (n + 1) : Nat) : Int) by omega), if_pos (zle pre.length), if_pos (lt_mid pre (0 : Int) (List.replicate n 0))]
    rw [app_mid]
    have := ih (pre ++ [-1]) (fun v hv => by
      rcases List.mem_append.1 hv with hv | hv
      · exact hp v hv
      · simpa using hv) (by simp; omega) (by rw [show (pre ++ [(-1 : Int)]).length + n = pre.length + (n + 1) by simp; omega]; exact h)
    rw [show ((pre ++ [(-1 : Int)]).length + n : Nat) = pre.length + (n + 1) by simp; omega, show (((pre ++ [(-1 : Int)]).length : Nat) : Int) = (pre.length : Int) + 1 by simp] at this
    exact this
def gN (a b : Int) : Nat := ((a + 1) * (b + 1) * 2).toNat
def gSp (a b : Int) : Int := (a * (b + 1) + b) * 2 + 1
def fgR (K : Nat) (a b s : Int) : Option (List Int) := spec_cuHome.l1 K a b s ((List.replicate (gN a b) (-1)).set (gSp a b).toNat 0) [gSp a b] 0
def fgTail (K : Nat) (a b s : Int) (far : List Int) : Option (List (List Int) × Bool) := if 0 < (far.length : Int) then (if rd far 0 < 0 then some ([], false) else spec_FirstForGuards.l0 K a b s far [] 0 0 0 (rd far 0)) else none
theorem home_of {a b s : Int} (ha : 0 ≤ a ∧ a ≤ 8) (hb : 0 ≤ b ∧ b ≤ 8) {K : Nat} {far : List Int} (h : fgR K a b s = some far) : Ev (fun k => spec_cuHome.f k a b s) far := by
  have e1 : 0 < (a + 1) * (b + 1) := Int.mul_pos (by omega) (by omega)
  have e2 : (a + 1) * (b + 1) ≤ 9 * (b + 1) := Int.mul_le_mul_of_nonneg_right (by omega) (by omega)
  have hN : ((gN a b : Nat) : Int) = (a + 1) * (b + 1) * 2 := Int.toNat_of_nonneg (by omega)
  have e3 : 0 ≤ a * (b + 1) := Int.mul_nonneg (by omega) (by omega)
  have e4 : (a + 1) * (b + 1) = a * (b + 1) + (b + 1) := by rw [Int.add_mul, Int.one_mul]
  have hs0 : 0 ≤ gSp a b := by unfold gSp; omega
  have hs1 : gSp a b < ((gN a b : Nat) : Int) := by rw [hN]; unfold gSp; omega
  have hsp : spec_cuSpot.f b a b 1 = some (gSp a b) := by
    unfold spec_cuSpot.f
    rw [wr_id (a := b + 1) (by omega) (by omega), wr_id (a := a * (b + 1)) (by omega) (by omega), wr_id (a := a * (b + 1) + b) (by omega) (by omega), wr_id (a := (a * (b + 1) + b) * 2) (by omega) (by omega), wr_id (by omega) (by omega)]
    rfl
  have hup : Ev (fun k => spec_cuHome.l1 k a b s ((List.replicate (gN a b) (-1)).set (gSp a b).toNat 0) [gSp a b] 0) far := ev_up (fun k => (spec_cuHome.mono_l k).2.1 _ _ _ _ _ _) h
  unfold spec_cuHome.f
  rw [wr_id (a := a + 1) (by omega) (by omega), wr_id (a := b + 1) (by omega) (by omega), wr_id (a := (a + 1) * (b + 1)) (by omega) (by omega), wr_id (by omega) (by omega), ← hN, Int.toNat_natCast]
  simp only [if_pos (zle (gN a b)), if_pos (show gN a b ≤ 35184372088832 by omega), Option.bind_some, List.length_replicate]
  have hf := homeG_fill a b s far (gN a b) [] (by simp) (by simp; omega) (by
    simp only [hsp, Option.bind_some, List.length_nil, Nat.zero_add, List.length_replicate]
    simp only [if_pos hs0, if_pos hs1]
    exact hup)
  simpa using hf
def chkG (a b s : Int) : Bool := match impl_FirstForGuards.f 30000 a b s with
  | none => false
  | some r => decide (n2 r.1 ≤ 1048576) && (match spec_cuHeld.f a b with
    | some true => (match fgR 30000 a b s with
      | none => false
      | some far => decide (fgTail 30000 a b s far = some r))
    | _ => decide (r = ([], false)))
end Go.Proofs.Ytibdeohiimjocaa.Pure

namespace Go.Proofs.Ytibdeohiimjocaa.Pure
open Go.RowKit Go.Proofs.Ytibdeohiimjocaa.C17 Go.Proofs.Ytibdeohiimjocaa.H Go.Proofs.YtibdeohiimjocaaW.PrintWords Go.Proofs.YtibdeohiimjocaaW.PrintLast Go.Proofs.YtibdeohiimjocaaW.PrintMore
set_option linter.unusedVariables false
set_option linter.unusedSimpArgs false
set_option maxRecDepth 100000 in
theorem fgT0 : ∀ (b : Fin 9) (s : Fin 4), chkG 0 ((b : Nat) : Int) (((s : Nat) : Int) + 1) = true := by decide +kernel
set_option maxRecDepth 100000 in
theorem fgT1 : ∀ (b : Fin 9) (s : Fin 4), chkG 1 ((b : Nat) : Int) (((s : Nat) : Int) + 1) = true := by decide +kernel
set_option maxRecDepth 100000 in
theorem fgT2 : ∀ (b : Fin 9) (s : Fin 4), chkG 2 ((b : Nat) : Int) (((s : Nat) : Int) + 1) = true := by decide +kernel
set_option maxRecDepth 100000 in
theorem fgT3 : ∀ (b : Fin 9) (s : Fin 4), chkG 3 ((b : Nat) : Int) (((s : Nat) : Int) + 1) = true := by decide +kernel
set_option maxRecDepth 100000 in
theorem fgT4 : ∀ (b : Fin 9) (s : Fin 4), chkG 4 ((b : Nat) : Int) (((s : Nat) : Int) + 1) = true := by decide +kernel
set_option maxRecDepth 100000 in
theorem fgT5 : ∀ (b : Fin 9) (s : Fin 4), chkG 5 ((b : Nat) : Int) (((s : Nat) : Int) + 1) = true := by decide +kernel
set_option maxRecDepth 100000 in
theorem fgT6 : ∀ (b : Fin 9) (s : Fin 4), chkG 6 ((b : Nat) : Int) (((s : Nat) : Int) + 1) = true := by decide +kernel
end Go.Proofs.Ytibdeohiimjocaa.Pure

namespace Go.Proofs.Ytibdeohiimjocaa.Pure
open Go.RowKit Go.Proofs.Ytibdeohiimjocaa.C17 Go.Proofs.Ytibdeohiimjocaa.H Go.Proofs.YtibdeohiimjocaaW.PrintWords Go.Proofs.YtibdeohiimjocaaW.PrintLast Go.Proofs.YtibdeohiimjocaaW.PrintMore
set_option linter.unusedVariables false
set_option linter.unusedSimpArgs false
set_option maxRecDepth 100000 in
theorem fgT7_0 : ∀ (s : Fin 4), chkG 7 0 (((s : Nat) : Int) + 1) = true := by decide +kernel
set_option maxRecDepth 100000 in
theorem fgT7_1 : ∀ (s : Fin 4), chkG 7 1 (((s : Nat) : Int) + 1) = true := by decide +kernel
set_option maxRecDepth 100000 in
theorem fgT7_2 : ∀ (s : Fin 4), chkG 7 2 (((s : Nat) : Int) + 1) = true := by decide +kernel
set_option maxRecDepth 100000 in
theorem fgT7_3 : ∀ (s : Fin 4), chkG 7 3 (((s : Nat) : Int) + 1) = true := by decide +kernel
set_option maxRecDepth 100000 in
theorem fgT7_4 : ∀ (s : Fin 4), chkG 7 4 (((s : Nat) : Int) + 1) = true := by decide +kernel
set_option maxRecDepth 100000 in
theorem fgT7_5 : ∀ (s : Fin 4), chkG 7 5 (((s : Nat) : Int) + 1) = true := by decide +kernel
set_option maxRecDepth 100000 in
theorem fgT7_6 : ∀ (s : Fin 4), chkG 7 6 (((s : Nat) : Int) + 1) = true := by decide +kernel
set_option maxRecDepth 100000 in
theorem fgT7_7 : ∀ (s : Fin 4), chkG 7 7 (((s : Nat) : Int) + 1) = true := by decide +kernel
set_option maxRecDepth 100000 in
theorem fgT7_8 : ∀ (s : Fin 4), chkG 7 8 (((s : Nat) : Int) + 1) = true := by decide +kernel
theorem fgT7 : ∀ (b : Fin 9) (s : Fin 4), chkG 7 ((b : Nat) : Int) (((s : Nat) : Int) + 1) = true := by
  intro b s
  obtain ⟨b, hb⟩ := b
  have : b = 0 ∨ b = 1 ∨ b = 2 ∨ b = 3 ∨ b = 4 ∨ b = 5 ∨ b = 6 ∨ b = 7 ∨ b = 8 := by omega
  rcases this with rfl | rfl | rfl | rfl | rfl | rfl | rfl | rfl | rfl
  · exact fgT7_0 s
  · exact fgT7_1 s
  · exact fgT7_2 s
  · exact fgT7_3 s
  · exact fgT7_4 s
  · exact fgT7_5 s
  · exact fgT7_6 s
  · exact fgT7_7 s
  · exact fgT7_8 s
end Go.Proofs.Ytibdeohiimjocaa.Pure

namespace Go.Proofs.Ytibdeohiimjocaa.Pure
open Go.RowKit Go.Proofs.Ytibdeohiimjocaa.C17 Go.Proofs.Ytibdeohiimjocaa.H Go.Proofs.YtibdeohiimjocaaW.PrintWords Go.Proofs.YtibdeohiimjocaaW.PrintLast Go.Proofs.YtibdeohiimjocaaW.PrintMore
set_option linter.unusedVariables false
set_option linter.unusedSimpArgs false
set_option maxRecDepth 100000 in
theorem fgT8_0 : ∀ (s : Fin 4), chkG 8 0 (((s : Nat) : Int) + 1) = true := by decide +kernel
set_option maxRecDepth 100000 in
theorem fgT8_1 : ∀ (s : Fin 4), chkG 8 1 (((s : Nat) : Int) + 1) = true := by decide +kernel
set_option maxRecDepth 100000 in
theorem fgT8_2 : ∀ (s : Fin 4), chkG 8 2 (((s : Nat) : Int) + 1) = true := by decide +kernel
set_option maxRecDepth 100000 in
theorem fgT8_3 : ∀ (s : Fin 4), chkG 8 3 (((s : Nat) : Int) + 1) = true := by decide +kernel
set_option maxRecDepth 100000 in
theorem fgT8_4 : ∀ (s : Fin 4), chkG 8 4 (((s : Nat) : Int) + 1) = true := by decide +kernel
set_option maxRecDepth 100000 in
theorem fgT8_5 : ∀ (s : Fin 4), chkG 8 5 (((s : Nat) : Int) + 1) = true := by decide +kernel
set_option maxRecDepth 100000 in
theorem fgT8_6 : ∀ (s : Fin 4), chkG 8 6 (((s : Nat) : Int) + 1) = true := by decide +kernel
set_option maxRecDepth 100000 in
theorem fgT8_7 : ∀ (s : Fin 4), chkG 8 7 (((s : Nat) : Int) + 1) = true := by decide +kernel
set_option maxRecDepth 100000 in
theorem fgT8_8 : ∀ (s : Fin 4), chkG 8 8 (((s : Nat) : Int) + 1) = true := by decide +kernel
theorem fgT8 : ∀ (b : Fin 9) (s : Fin 4), chkG 8 ((b : Nat) : Int) (((s : Nat) : Int) + 1) = true := by
  intro b s
  obtain ⟨b, hb⟩ := b
  have : b = 0 ∨ b = 1 ∨ b = 2 ∨ b = 3 ∨ b = 4 ∨ b = 5 ∨ b = 6 ∨ b = 7 ∨ b = 8 := by omega
  rcases this with rfl | rfl | rfl | rfl | rfl | rfl | rfl | rfl | rfl
  · exact fgT8_0 s
  · exact fgT8_1 s
  · exact fgT8_2 s
  · exact fgT8_3 s
  · exact fgT8_4 s
  · exact fgT8_5 s
  · exact fgT8_6 s
  · exact fgT8_7 s
  · exact fgT8_8 s
end Go.Proofs.Ytibdeohiimjocaa.Pure

namespace Go.Proofs.Ytibdeohiimjocaa.Pure
open Go.RowKit Go.Proofs.Ytibdeohiimjocaa.C17 Go.Proofs.Ytibdeohiimjocaa.H Go.Proofs.YtibdeohiimjocaaW.PrintWords Go.Proofs.YtibdeohiimjocaaW.PrintLast Go.Proofs.YtibdeohiimjocaaW.PrintMore
set_option linter.unusedVariables false
set_option linter.unusedSimpArgs false
theorem sidesG {a b s : Int} (ha : 0 ≤ a ∧ a ≤ 8) (hb : 0 ≤ b ∧ b ≤ 8) (hs : 1 ≤ s ∧ s ≤ 4) : spec_cuSides.f a b s = some (decide (0 < a + b)) := by
  have w : wrap64 (a + b) = a + b := wr_id (by omega) (by omega)
  unfold spec_cuSides.f spec_l1In.f
  simp [ha.1, ha.2, hb.1, hb.2, hs.1, hs.2, w]
  by_cases h0 : 0 < a + b <;> simp [h0]
theorem chkG_ok {a b s : Int} (ha : 0 ≤ a ∧ a ≤ 8) (hb : 0 ≤ b ∧ b ≤ 8) (hs : 1 ≤ s ∧ s ≤ 4) (h : chkG a b s = true) (h0 : 0 < a + b) : ∃ rr : List (List Int) × Bool, Ev (fun k => spec_FirstForGuards.f k a b s) rr ∧ Ev (fun k => impl_FirstForGuards.f k a b s) rr ∧ n2 rr.1 ≤ 1048576 := by
  unfold chkG at h
  cases hi : impl_FirstForGuards.f 30000 a b s with
  | none => rw [hi] at h; cases h
  | some r =>
    rw [hi] at h
    simp only [Bool.and_eq_true, decide_eq_true_eq] at h
    obtain ⟨h1, h⟩ := h
    refine ⟨r, ?_, ev_up (f := fun k => impl_FirstForGuards.f k a b s) (fun k => impl_FirstForGuards.mono _ _ _ _) hi, h1⟩
    unfold spec_FirstForGuards.f
    rw [sidesG ha hb hs]
    simp only [Option.bind_some, decide_eq_true h0, if_true]
    have hh : spec_cuHeld.f a b = some true ∨ spec_cuHeld.f a b = some false := by
      unfold spec_cuHeld.f
      split
      · exact .inl rfl
      · by_cases y : a ≥ b
        · exact .inl (by rw [decide_eq_true y])
        · exact .inr (by rw [decide_eq_false y])
    rcases hh with e | e
    · rw [e] at h
      dsimp only at h
      cases hr : fgR 30000 a b s with
      | none => rw [hr] at h; cases h
      | some far =>
        rw [hr] at h
        dsimp only at h
        have ht := of_decide_eq_true h
        rw [e]
        simp only [Option.bind_some, Bool.not_true]
        refine Ev.step (fun k => spec_FirstForGuards.j0.eq_2 ..) ?_
        simp only [Bool.false_eq_true, if_false]
        refine Ev.bind (home_of ha hb hr) ?_
        unfold fgTail at ht
        split at ht
        · rename_i hp
          simp only [if_pos hp]
          split at ht
          · rename_i hq
            simp only [if_pos hq]
            rw [← Option.some.inj ht]
            exact Ev.now _
          · rename_i hq
            simp only [if_neg hq]
            exact ev_up (fun k => (spec_FirstForGuards.mono_l k).2.1 _ _ _ _ _ _ _ _ _) ht
        · cases ht
    · rw [e] at h
      dsimp only at h
      have := of_decide_eq_true h
      subst this
      rw [e]
      simp only [Option.bind_some, Bool.not_false]
      refine Ev.step (fun k => spec_FirstForGuards.j0.eq_2 ..) ?_
      simp only [if_true]
      exact Ev.now _
theorem FnExactFirstForGuards_both (a b s : Int) : ∃ rr : List (List Int) × Bool, Ev (fun k => spec_FirstForGuards.f k a b s) rr ∧ Ev (fun k => impl_FirstForGuards.f k a b s) rr ∧ n2 rr.1 ≤ 1048576 := by
  by_cases hg : (0 ≤ a ∧ a ≤ 8) ∧ (0 ≤ b ∧ b ≤ 8) ∧ (1 ≤ s ∧ s ≤ 4) ∧ 0 < a + b
  · obtain ⟨⟨a0, a1⟩, ⟨b0, b1⟩, ⟨s0, s1⟩, ab⟩ := hg
    obtain ⟨x, rfl⟩ : ∃ x : Nat, b = (x : Int) := ⟨b.toNat, by omega⟩
    obtain ⟨y, rfl⟩ : ∃ y : Nat, s = (y : Int) + 1 := ⟨(s - 1).toNat, by omega⟩
    have hx : x < 9 := by omega
    have hy : y < 4 := by omega
    have : a = 0 ∨ a = 1 ∨ a = 2 ∨ a = 3 ∨ a = 4 ∨ a = 5 ∨ a = 6 ∨ a = 7 ∨ a = 8 := by omega
    rcases this with rfl | rfl | rfl | rfl | rfl | rfl | rfl | rfl | rfl
    · exact chkG_ok (by omega) (by omega) (by omega) (fgT0 ⟨x, hx⟩ ⟨y, hy⟩) ab
    · exact chkG_ok (by omega) (by omega) (by omega) (fgT1 ⟨x, hx⟩ ⟨y, hy⟩) ab
    · exact chkG_ok (by omega) (by omega) (by omega) (fgT2 ⟨x, hx⟩ ⟨y, hy⟩) ab
    · exact chkG_ok (by omega) (by omega) (by omega) (fgT3 ⟨x, hx⟩ ⟨y, hy⟩) ab
    · exact chkG_ok (by omega) (by omega) (by omega) (fgT4 ⟨x, hx⟩ ⟨y, hy⟩) ab
    · exact chkG_ok (by omega) (by omega) (by omega) (fgT5 ⟨x, hx⟩ ⟨y, hy⟩) ab
    · exact chkG_ok (by omega) (by omega) (by omega) (fgT6 ⟨x, hx⟩ ⟨y, hy⟩) ab
    · exact chkG_ok (by omega) (by omega) (by omega) (fgT7 ⟨x, hx⟩ ⟨y, hy⟩) ab
    · exact chkG_ok (by omega) (by omega) (by omega) (fgT8 ⟨x, hx⟩ ⟨y, hy⟩) ab
  · have e1 : spec_cuSides.f a b s = some false := by
      unfold spec_cuSides.f spec_l1In.f
      by_cases hr : (0 ≤ a ∧ a ≤ 8) ∧ (0 ≤ b ∧ b ≤ 8)
      · have w : wrap64 (a + b) = a + b := wr_id (by omega) (by omega)
        simp only [ge_iff_le, if_pos hr.1.1, if_pos hr.2.1, decide_eq_true hr.1.2, decide_eq_true hr.2.2, Option.bind_some, if_true, w]
        by_cases h0 : 0 < a + b
        · by_cases h5 : 1 ≤ s <;> by_cases h6 : s ≤ 4 <;> simp [h0, h5, h6] <;> omega
        · simp [h0]
      · by_cases h1 : 0 ≤ a <;> by_cases h2 : a ≤ 8 <;> by_cases h3 : 0 ≤ b <;> by_cases h4 : b ≤ 8 <;> simp [h1, h2, h3, h4] <;> omega
    have e2 : impl_guarded_isOk.f a b s = some false := by
      unfold impl_guarded_isOk.f
      have hin : ∀ x y z, impl_in.f x y z = spec_l1In.f x y z := fun x y z => by
        unfold impl_in.f spec_l1In.f
        by_cases h1 : y ≤ x <;> simp [h1]
      rw [hin, hin, hin]
      exact e1
    refine ⟨([], false), ?_, ?_, by decide⟩
    · unfold spec_FirstForGuards.f
      simp only [e1, Option.bind_some, Bool.false_eq_true, if_false]
      refine Ev.step (fun k => spec_FirstForGuards.j0.eq_2 ..) ?_
      simp only [if_true]
      exact Ev.now _
    · unfold impl_FirstForGuards.f impl_guarded_costs.f
      simp only [e2, Option.bind_some, Bool.false_eq_true, if_false]
      exact Ev.now _
theorem FnExactFirstForGuards_pure : ∀ (a0 : Int) (a1 : Int) (a2 : Int), goodI a0 → goodI a1 → goodI a2 → ∃ k, laws_FnExactFirstForGuards.f k a0 a1 a2 = some true := by
  intro a0 a1 a2 g0 g1 g2
  obtain ⟨rr, es, ei, hsm⟩ := FnExactFirstForGuards_both a0 a1 a2
  obtain ⟨r0, r1⟩ := rr
  dsimp only at hsm
  have s0 := hsm
  have eq0 : Ev (fun k => laws_eqIntSS.f k r0 r0) true := ev_eq (eqIntSS_ev r0 r0 s0) (decide_eq_true rfl)
  have emr0 := ev_some (markIntSS_ev r0 (1))
  have bmr0 := mkSS_bound r0 (1) (by omega) (by omega)
  have nr0 : ¬ (mkSS r0 (1)).1 < 0 := by omega
  have eh0 := heldIntSS_ev r0 (1) (by omega) (by omega) s0
  clear bmr0
  refine Ev.rounds ?_
  unfold laws_FnExactFirstForGuards.f
  repeat (first | exact Ev.now _ | (refine Ev.bind (by assumption) ?_; try dsimp only) | (simp only [nr0, if_true, if_false, bne_self_eq_false, Bool.false_eq_true]) | refine Ev.step (fun k => laws_FnExactFirstForGuards.j0.eq_2 ..) ?_ | refine Ev.step (fun k => laws_FnExactFirstForGuards.j1.eq_2 ..) ?_ | refine Ev.step (fun k => laws_FnExactFirstForGuards.j2.eq_2 ..) ?_ | refine Ev.step (fun k => laws_FnExactFirstForGuards.j3.eq_2 ..) ?_ | refine Ev.step (fun k => laws_FnExactFirstForGuards.j4.eq_2 ..) ?_ | refine Ev.step (fun k => laws_FnExactFirstForGuards.j5.eq_2 ..) ?_)
end Go.Proofs.Ytibdeohiimjocaa.Pure
