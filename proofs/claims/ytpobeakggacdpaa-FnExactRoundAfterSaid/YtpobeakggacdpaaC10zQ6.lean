import Derived.Test.YtpobeakggacdpaaC10zx0
import Derived.Test.YtpobeakggacdpaaC10zx10
import Derived.Test.YtpobeakggacdpaaC10zx3
import Derived.Test.YtpobeakggacdpaaC10zx4
import Derived.Test.YtpobeakggacdpaaC10zx5
import Derived.Test.YtpobeakggacdpaaC10zx7
import Derived.Test.YtpobeakggacdpaaC10zx8
import Derived.Test.YtpobeakggacdpaaC10zx9
import Derived.Test.YtpobeakggacdpaaC10zH0
import Derived.Test.YtpobeakggacdpaaC10zH1
import Derived.Test.YtpobeakggacdpaaC10zQ0
import Derived.Test.YtpobeakggacdpaaC10zQ1
import Derived.Test.YtpobeakggacdpaaC10zQ2
import Derived.Test.YtpobeakggacdpaaC10zQ3
import Derived.Test.YtpobeakggacdpaaC10zQ4
import Derived.Test.YtpobeakggacdpaaC10zQ5
namespace Go.Proofs.Ytpobeakggacdpaa.Pure
open Go.RowKit Go.Proofs.Ytpobeakggacdpaa.C10 Go.Proofs.Ytpobeakggacdpaa.H Go.Proofs.YtpobeakggacdpaaW.PrintWords Go.Proofs.YtpobeakggacdpaaW.PrintLast Go.Proofs.YtpobeakggacdpaaW.PrintMore
set_option linter.unusedVariables false
set_option linter.unusedSimpArgs false
def cmpL : List Int → List Int → Int
  | [], [] => 0
  | [], _ :: _ => -1
  | _ :: _, [] => 1
  | x :: a, y :: b => if x < y then -1 else if x > y then 1 else cmpL a b
def ltL : List Int → List Int → Bool
  | [], [] => false
  | [], _ :: _ => true
  | _ :: _, [] => false
  | x :: a, y :: b => if x = y then ltL a b else decide (x < y)
theorem cmp_lt : ∀ a b : List Int, decide (cmpL a b ≥ 0) = !ltL a b
  | [], [] => rfl
  | [], _ :: _ => rfl
  | _ :: _, [] => rfl
  | x :: a, y :: b => by
    by_cases h : x < y
    · have e1 : cmpL (x :: a) (y :: b) = -1 := by simp only [cmpL]; rw [if_pos h]
      have e2 : ltL (x :: a) (y :: b) = true := by simp only [ltL]; rw [if_neg (by omega)]; exact decide_eq_true h
      rw [e1, e2]; rfl
    · by_cases h2 : x > y
      · have e1 : cmpL (x :: a) (y :: b) = 1 := by simp only [cmpL]; rw [if_neg h, if_pos h2]
        have e2 : ltL (x :: a) (y :: b) = false := by simp only [ltL]; rw [if_neg (by omega)]; exact decide_eq_false h
        rw [e1, e2]; rfl
      · have e1 : cmpL (x :: a) (y :: b) = cmpL a b := by simp only [cmpL]; rw [if_neg h, if_neg h2]
        have e2 : ltL (x :: a) (y :: b) = ltL a b := by simp only [ltL]; rw [if_pos (by omega)]
        rw [e1, e2]; exact cmp_lt a b
theorem cmpC (x y : Int) : cmp_Compare_int.f x y = some (if x < y then -1 else if x > y then 1 else 0) := by
  unfold cmp_Compare_int.f cmp_isNaN_int.f
  simp only [Option.bind_some, bne_self_eq_false, Bool.false_eq_true, if_false]
  split
  · rfl
  · split <;> rfl
theorem compare_loop (X Y : List Int) (hX : X.length ≤ 1048576) (hY : Y.length ≤ 1048576) : ∀ (a b p q : List Int), X = p ++ a → Y = q ++ b → p.length = q.length → Ev (fun k => slices_Compare_int_int.l0 k X Y X (X.length : Int) (p.length : Int)) (cmpL a b) := by
  intro a
  induction a with
  | nil =>
    intro b p q e1 e2 hp
    refine Ev.step (f := fun _ => some _) (fun k => ?_) (Ev.now _)
    simp only [slices_Compare_int_int.l0]
    rw [if_neg (by rw [e1]; simp)]
    cases b with
    | nil => rw [if_neg (by rw [e1, e2]; simp; omega)]; rfl
    | cons y b => rw [if_pos (by rw [e1, e2]; simp; omega)]; rfl
  | cons x a ih =>
    intro b p q e1 e2 hp
    have h1 : (p.length : Int) < (X.length : Int) := by rw [e1]; exact lt_mid p x a
    have hx : rd X (p.length : Int) = x := by rw [e1]; exact rd_mid p x a
    cases b with
    | nil =>
      refine Ev.step (f := fun _ => some _) (fun k => ?_) (Ev.now _)
      simp only [slices_Compare_int_int.l0]
      rw [if_pos h1, if_pos (zle _), if_pos h1, if_pos (by rw [e2]; simp; omega)]
      rfl
    | cons y b =>
      have h2 : (p.length : Int) < (Y.length : Int) := by rw [e2, hp]; exact lt_mid q y b
      have hy : rd Y (p.length : Int) = y := by rw [e2, hp]; exact rd_mid q y b
      by_cases c1 : x < y
      · refine Ev.step (f := fun _ => some _) (fun k => ?_) (Ev.now _)
        simp only [slices_Compare_int_int.l0]
        rw [if_pos h1, if_pos (zle _), if_pos h1, if_neg (by omega), if_pos h2, hx, hy, cmpC, if_pos c1, Option.bind_some, if_neg (by omega)]
        simp [cmpL, c1]
      · by_cases c2 : x > y
        · refine Ev.step (f := fun _ => some _) (fun k => ?_) (Ev.now _)
          simp only [slices_Compare_int_int.l0]
          rw [if_pos h1, if_pos (zle _), if_pos h1, if_neg (by omega), if_pos h2, hx, hy, cmpC, if_neg c1, if_pos c2, Option.bind_some, if_neg (by omega)]
          simp [cmpL, c1, c2]
        · refine Ev.step (fun k => ?_) (ev_eq (ih b (p ++ [x]) (q ++ [y]) (by rw [e1]; simp) (by rw [e2]; simp) (by simp [hp])) (by simp only [cmpL]; rw [if_neg c1, if_neg c2]))
          simp only [slices_Compare_int_int.l0]
          rw [if_pos h1, if_pos (zle _), if_pos h1, if_neg (by omega), if_pos h2, hx, hy, cmpC, if_neg c1, if_neg c2, Option.bind_some, if_pos rfl, wr_id (by omega) (by omega)]
          simp
theorem compare_ev (a b : List Int) (ha : a.length ≤ 1048576) (hb : b.length ≤ 1048576) : Ev (fun k => slices_Compare_int_int.f k a b) (cmpL a b) := compare_loop a b ha hb a b [] [] rfl rfl rfl
theorem before_loop (X Y : List Int) (hX : X.length ≤ 1048576) (hY : Y.length ≤ 1048576) : ∀ (a b p q : List Int), X = p ++ a → Y = q ++ b → p.length = q.length → Ev (fun k => spec_cuBefore.l0 k X Y (p.length : Int)) (ltL a b) := by
  intro a
  induction a with
  | nil =>
    intro b p q e1 e2 hp
    refine Ev.step (f := fun k => spec_cuBefore.j1 k X Y (p.length : Int) false) (fun k => ?_) (Ev.step (f := fun _ => some _) (fun k => ?_) (Ev.now _))
    · simp only [spec_cuBefore.l0]
      rw [if_neg (by rw [e1]; simp)]
    · simp only [spec_cuBefore.j1]
      rw [if_neg (by simp), e1, e2]
      cases b with
      | nil => simp [ltL]; omega
      | cons y b => simp [ltL]; omega
  | cons x a ih =>
    intro b p q e1 e2 hp
    have h1 : (p.length : Int) < (X.length : Int) := by rw [e1]; exact lt_mid p x a
    have hx : rd X (p.length : Int) = x := by rw [e1]; exact rd_mid p x a
    cases b with
    | nil =>
      refine Ev.step (f := fun k => spec_cuBefore.j1 k X Y (p.length : Int) false) (fun k => ?_) (Ev.step (f := fun _ => some _) (fun k => ?_) (Ev.now _))
      · simp only [spec_cuBefore.l0]
        rw [if_pos h1, decide_eq_false (by rw [e2]; simp; omega)]
      · simp only [spec_cuBefore.j1]
        rw [if_neg (by simp), e1, e2]
        simp [ltL]; omega
    | cons y b =>
      have h2 : (p.length : Int) < (Y.length : Int) := by rw [e2, hp]; exact lt_mid q y b
      have hy : rd Y (p.length : Int) = y := by rw [e2, hp]; exact rd_mid q y b
      refine Ev.step (f := fun k => spec_cuBefore.j1 k X Y (p.length : Int) true) (fun k => ?_) ?_
      · simp only [spec_cuBefore.l0]
        rw [if_pos h1, decide_eq_true h2]
      · by_cases c : x = y
        · refine Ev.step (fun k => ?_) (ev_eq (ih b (p ++ [x]) (q ++ [y]) (by rw [e1]; simp) (by rw [e2]; simp) (by simp [hp])) (by simp only [ltL]; rw [if_pos c]))
          simp only [spec_cuBefore.j1]
          rw [if_pos trivial, if_pos (zle _), if_pos h1, if_pos h2, hx, hy, if_pos c, wr_id (by omega) (by omega)]
          simp
        · refine Ev.step (f := fun _ => some _) (fun k => ?_) (ev_eq (Ev.now _) (by simp only [ltL]; rw [if_neg c]))
          simp only [spec_cuBefore.j1]
          rw [if_pos trivial, if_pos (zle _), if_pos h1, if_pos h2, hx, hy, if_neg c]
theorem before_ev (a b : List Int) (ha : a.length ≤ 1048576) (hb : b.length ≤ 1048576) : Ev (fun k => spec_cuBefore.f k a b) (ltL a b) := before_loop a b ha hb a b [] [] rfl rfl rfl
def sideP (ov : List Bool) (g : List Int) : Bool := rdOf false ov (rd g 0)
def sameP (ov : List Bool) (g : List Int) : Bool := g.all fun x => rdOf false ov x == sideP ov g
def prevP (f : List Int → List Int → Bool) (p : Option (List Int)) (g : List Int) : Bool := match p with | none => true | some q => f q g
def cS (ov : List Bool) : Option (List Int) → Int → Int → List (List Int) → Bool
  | _, a, b, [] => decide (a ≥ 0) && decide (b ≥ 0)
  | p, a, b, g :: r => prevP ltL p g && (sameP ov g && if sideP ov g then cS ov (some g) a (wrap64 (b - 1)) r else cS ov (some g) (wrap64 (a - 1)) b r)
def torP (t : Int) (c : Int) (b : Bool) : Int := if b then c else wrap64 (t - c)
def togP (t : Int) (ov : List Bool) (c : Int) (p g : List Int) : Bool := !shareP p g && ((sideP ov p != sideP ov g) || decide (torP t c (sideP ov p) > 1))
def cI (n : Nat) (s t : Int) (ov : List Bool) (c : Int) : Option (List Int) → List (List Int) → Bool
  | _, [] => true
  | p, g :: r => tripP n s g && (!decide (torP t c (sideP ov g) = 0) && (sameP ov g && (prevP (fun p g => ltL p g && togP t ov c p g) p g && cI n s t ov c (some g) r)))
def campP (l : List Int) (s t : Int) (ov : List Bool) (c : Int) : Bool := goodN l s t && (decide (ov.length = l.length) && inB 0 t c)
def roundP (n : Nat) (s t : Int) (ov : List Bool) (c : Int) (R : List (List Int)) : Bool := inB 1 t (R.length : Int) && cI n s t ov c none R
theorem round_same (n : Nat) (s t : Int) (ov : List Bool) (c : Int) (R : List (List Int)) (ht : 1 ≤ t ∧ t ≤ 2) (hc : 0 ≤ c ∧ c ≤ t) : (grpP n s t R && cS ov none (wrap64 (t - c)) c R) = roundP n s t ov c R := by
  unfold grpP roundP
  cases hi : inB 1 t (R.length : Int) with
  | false => rfl
  | true =>
    simp only [Bool.true_and]
    have h2 : 1 ≤ R.length ∧ R.length ≤ t := by
      simp only [inB, Bool.and_eq_true, decide_eq_true_eq] at hi
      omega
    have hw : wrap64 (t - c) = t - c := wr_id (by omega) (by omega)
    rw [gOk_rOk n s R (by omega), hw]
    match R, h2 with
    | [g], _ =>
      simp only [rOk, cS, cI, prevP, torP, hw, Bool.and_true, Bool.true_and]
      cases tripP n s g with
      | false => rfl
      | true =>
        cases sameP ov g with
        | false => simp
        | true =>
          cases sideP ov g with
          | true =>
            simp only [if_true, Bool.true_and, Bool.and_true]
            rw [wr_id (by omega) (by omega)]
            by_cases h0 : c = 0
            · subst h0; simp
            · simp [h0]; omega
          | false =>
            simp only [Bool.false_eq_true, if_false, Bool.true_and, Bool.and_true]
            rw [wr_id (by omega) (by omega)]
            by_cases h0 : t - c = 0
            · rw [h0]; simp
            · simp [h0]; omega
    | [g, q], h =>
      obtain rfl : t = 2 := by simp at h; omega
      simp only [rOk, cS, cI, prevP, torP, togP, hw, Bool.and_true, Bool.true_and]
      cases tripP n s g with
      | false => rfl
      | true =>
        cases tripP n s q with
        | false => simp
        | true =>
          cases shareP g q with
          | true => simp
          | false =>
            cases ltL g q with
            | false => simp
            | true =>
              cases sameP ov g with
              | false => simp
              | true =>
                cases sameP ov q with
                | false => simp
                | true =>
                  obtain rfl | rfl | rfl : c = 0 ∨ c = 1 ∨ c = 2 := by omega
                  all_goals cases sideP ov g <;> cases sideP ov q <;> decide +kernel
    | _ :: _ :: _ :: _, h =>
      exfalso
      simp only [List.length_cons] at h
      omega
theorem toCan_in (X : List (List Int)) (a b i L : Int) (g : List Int) (ov : List Bool) (c : Int) (V : Bool) (hg : 0 < g.length) (hi : ∀ x ∈ g, 0 ≤ x ∧ x < (ov.length : Int)) (hl : g.length ≤ 1048576) : ∀ (r pre : List Int), g = pre ++ r → ((r.all fun x => rdOf false ov x == sideP ov g) = true → Ev (fun k => if sideP ov g = true then spec_toCan.l0 k X a (wrap64 (b - 1)) X L (wrap64 (i + 1)) ov c else spec_toCan.l0 k X (wrap64 (a - 1)) b X L (wrap64 (i + 1)) ov c) V) → Ev (fun k => spec_toCan.l1 k X a b g X L i g (g.length : Int) (pre.length : Int) ov c) ((r.all fun x => rdOf false ov x == sideP ov g) && V) := by
  have h0 : 0 ≤ rd g 0 ∧ rd g 0 < (ov.length : Int) := by
    match g, hg with
    | x :: g, _ => exact hi x (by simp)
  intro r
  induction r with
  | nil =>
    intro pre e hv
    refine ev_eq (Ev.step (fun k => ?_) (hv rfl)) (by simp)
    simp only [spec_toCan.l1]
    rw [if_neg (by rw [e]; simp), if_pos (by omega), if_pos h0.1, if_pos h0.2]
    rfl
  | cons x r ih =>
    intro pre e hv
    have hx := hi x (by rw [e]; simp)
    have h1 : (pre.length : Int) < (g.length : Int) := by rw [e]; exact lt_mid pre x r
    have hr : rd g (pre.length : Int) = x := by rw [e]; exact rd_mid pre x r
    by_cases q : rdOf false ov x = sideP ov g
    · refine ev_eq (Ev.step (fun k => ?_) (ih (pre ++ [x]) (by rw [e]; simp) (fun h => hv (by simp only [List.all_cons, q, beq_self_eq_true, Bool.true_and]; exact h)))) (by simp [q])
      simp only [spec_toCan.l1]
      rw [if_pos h1, if_pos (zle _), if_pos h1, hr, if_pos hx.1, if_pos hx.2, if_pos (by omega), if_pos h0.1, if_pos h0.2, if_neg (by rw [q]; simp [sideP]), wr_id (by omega) (by omega)]
      simp
    · refine Ev.step (f := fun _ => some false) (fun k => ?_) (ev_eq (Ev.now _) (by simp [q]))
      simp only [spec_toCan.l1]
      rw [if_pos h1, if_pos (zle _), if_pos h1, hr, if_pos hx.1, if_pos hx.2, if_pos (by omega), if_pos h0.1, if_pos h0.2, if_pos (by simpa [sideP] using q)]
theorem toCan_loop (n : Nat) (s : Int) (X : List (List Int)) (ov : List Bool) (c : Int) (hX : X.length ≤ 1048576) (hn : n = ov.length) (ht : ∀ g ∈ X, tripP n s g = true) (hs : ∀ g ∈ X, g.length ≤ 1048576) : ∀ (r q : List (List Int)) (p : Option (List Int)) (a b : Int), X = q ++ r → (match p with | none => q = [] | some p => ∃ q', q = q' ++ [p]) → Ev (fun k => spec_toCan.l0 k X a b X (X.length : Int) (q.length : Int) ov c) (cS ov p a b r) := by
  intro r
  induction r with
  | nil =>
    intro q p a b e hp
    refine Ev.step (f := fun _ => some _) (fun k => ?_) (Ev.now _)
    simp only [spec_toCan.l0]
    rw [if_neg (by rw [e]; simp)]
    simp only [cS]
    by_cases h : a ≥ 0 <;> simp [h]
  | cons g r ih =>
    intro q p a b e hp
    have hgX : g ∈ X := by rw [e]; simp
    have h1 : (q.length : Int) < (X.length : Int) := by rw [e]; exact lt_mid q g r
    have hr : rd_L2 X (q.length : Int) = g := by rw [e]; exact rd_L2_mid q g r
    have htg := ht g hgX
    have hin : ∀ x ∈ g, 0 ≤ x ∧ x < (ov.length : Int) := by rw [← hn]; exact tripP_in htg
    have hg0 : 0 < g.length := by
      unfold tripP at htg
      simp only [Bool.and_eq_true] at htg
      have := htg.1.1
      simp only [inB, Bool.and_eq_true, decide_eq_true_eq] at this
      omega
    have hw : wrap64 ((q.length : Int) + 1) = ((q ++ [g]).length : Int) := by rw [wr_id (by omega) (by omega)]; simp
    have body : ∀ o : Bool, Ev (fun k => spec_toCan.j1 k X a b g X (X.length : Int) (q.length : Int) (!o) ov c) (o && (sameP ov g && if sideP ov g then cS ov (some g) a (wrap64 (b - 1)) r else cS ov (some g) (wrap64 (a - 1)) b r)) := by
      intro o
      cases o with
      | false => exact Ev.step (f := fun _ => some false) (fun k => by simp only [spec_toCan.j1]; rfl) (Ev.now _)
      | true =>
        refine Ev.step (f := fun k => spec_toCan.l1 k X a b g X (X.length : Int) (q.length : Int) g (g.length : Int) 0 ov c) (fun k => by simp only [spec_toCan.j1]; rfl) ?_
        rw [Bool.true_and]
        refine toCan_in X a b (q.length : Int) (X.length : Int) g ov c _ hg0 hin (hs g hgX) g [] rfl (fun _ => ?_)
        rw [hw]
        cases hd : sideP ov g with
        | true => simp only [if_true]; exact ih (q ++ [g]) (some g) a _ (by rw [e]; simp) ⟨q, rfl⟩
        | false => simp only [Bool.false_eq_true, if_false]; exact ih (q ++ [g]) (some g) _ b (by rw [e]; simp) ⟨q, rfl⟩
    cases p with
    | none =>
      simp only at hp
      subst hp
      refine Ev.step (fun k => ?_) (ev_eq (body true) (by simp only [cS, prevP]))
      simp only [spec_toCan.l0]
      rw [if_pos h1, if_pos (zle _), if_pos h1, if_neg (by simp), hr]
      rfl
    | some p =>
      obtain ⟨q', rfl⟩ := hp
      have hl : ((q' ++ [p]).length : Int) = (q'.length : Int) + 1 := by simp
      have hr0 : rd_L2 X (q'.length : Int) = p := by rw [e, List.append_assoc]; exact rd_L2_mid q' p _
      refine Ev.step (f := fun k => (spec_cuBefore.f k p g).bind fun t551 => spec_toCan.j1 k X a b g X (X.length : Int) ((q' ++ [p]).length : Int) (!t551) ov c) (fun k => ?_) (Ev.bind (before_ev p g (hs p (by rw [e]; simp)) (hs g hgX)) (ev_eq (body _) (by simp only [cS, prevP])))
      simp only [spec_toCan.l0]
      rw [if_pos h1, if_pos (zle _), if_pos h1, if_pos (by rw [hl]; omega), hr, show wrap64 (((q' ++ [p]).length : Int) - 1) = (q'.length : Int) by rw [hl]; exact wr_pred' _ (by omega), if_pos (zle _), if_pos (by omega), hr0]
theorem toCan_ev (l : List Int) (s t : Int) (ov : List Bool) (c : Int) (R : List (List Int)) (hn : l.length ≤ 40) (ho : ov.length = l.length) (hR : R.length ≤ 1048576) (hg : ∀ g ∈ R, g.length ≤ 1048576) (ht : 1 ≤ t ∧ t ≤ 2) (hc : 0 ≤ c ∧ c ≤ t) : Ev (fun k => spec_toCan.f k l s t ov c R) (roundP l.length s t ov c R) := by
  unfold spec_toCan.f
  rw [← round_same _ _ _ _ _ _ ht hc]
  refine Ev.bind (toGroups_ev l s t R hn hR hg) ?_
  cases hp : grpP l.length s t R with
  | false => exact Ev.now _
  | true =>
    simp only [if_true, Bool.true_and]
    have hgk : gOk l.length s R 0 = true := by unfold grpP at hp; simp only [Bool.and_eq_true] at hp; exact hp.2
    exact toCan_loop l.length s R ov c hR ho.symm (gOk_in R 0 hgk) hg R [] none _ c rfl rfl
theorem together_eq (l : List Int) (s t : Int) (ov : List Bool) (c : Int) (p g : List Int) (hp : 0 < p.length) (hg : 0 < g.length) (hip : ∀ x ∈ p, 0 ≤ x ∧ x < (ov.length : Int)) (hig : ∀ x ∈ g, 0 ≤ x ∧ x < (ov.length : Int)) : impl_Night_together.f l s t ov c p g = some (togP t ov c p g) := by
  have h1 : 0 ≤ rd p 0 ∧ rd p 0 < (ov.length : Int) := by
    match p, hp with
    | x :: p, _ => exact hip x (by simp)
  have h2 : 0 ≤ rd g 0 ∧ rd g 0 < (ov.length : Int) := by
    match g, hg with
    | x :: g, _ => exact hig x (by simp)
  unfold impl_Night_together.f togP
  rw [if_pos (by omega), if_pos h1.1, if_pos h1.2, share_eq, Option.bind_some]
  cases shareP p g with
  | true => rfl
  | false =>
    rw [if_neg (by simp), if_pos (by omega), if_pos h2.1, if_pos h2.2]
    show (if (sideP ov p != sideP ov g) = true then some true else _) = _
    cases hq : (sideP ov p != sideP ov g) with
    | true => rfl
    | false =>
      rw [if_neg (by simp)]
      show (impl_Night_torches.f l s t ov c (sideP ov p)).bind _ = _
      unfold impl_Night_torches.f torP
      cases sideP ov p <;> rfl
theorem isRound_loop (l : List Int) (s t : Int) (X : List (List Int)) (ov : List Bool) (c : Int) (hl : l.length ≤ 1048576) (hX : X.length ≤ 1048576) (hn : ov.length = l.length) (hs : ∀ g ∈ X, g.length ≤ 1048576) : ∀ (r q : List (List Int)) (p : Option (List Int)), X = q ++ r → (match p with | none => q = [] | some p => ∃ q', q = q' ++ [p] ∧ tripP l.length s p = true) → Ev (fun k => impl_Night_isRound.l0 k X X (X.length : Int) (q.length : Int) l s t ov c) (cI l.length s t ov c p r) := by
  intro r
  induction r with
  | nil =>
    intro q p e hp
    refine Ev.step (f := fun _ => some true) (fun k => ?_) (Ev.now _)
    simp only [impl_Night_isRound.l0]
    rw [if_neg (by rw [e]; simp)]
  | cons g r ih =>
    intro q p e hp
    have hgX : g ∈ X := by rw [e]; simp
    have h1 : (q.length : Int) < (X.length : Int) := by rw [e]; exact lt_mid q g r
    have hr : rd_L2 X (q.length : Int) = g := by rw [e]; exact rd_L2_mid q g r
    have hw : wrap64 ((q.length : Int) + 1) = ((q ++ [g]).length : Int) := by rw [wr_id (by omega) (by omega)]; simp
    refine Ev.step (f := fun k => (impl_Night_isGroup.f k l s t g).bind fun t599 => (if t599 = true then (if 0 < (g.length : Int) then (if 0 ≤ (rd g 0) then (if (rd g 0) < (ov.length : Int) then ((impl_Night_torches.f l s t ov c (rdOf false ov (rd g 0))).bind fun t602 => (if t602 = 0 then (impl_Night_isRound.j1 k X (q.length : Int) g X (X.length : Int) (q.length : Int) true l s t ov c) else ((impl_State_are.f ov false g (rdOf false ov (rd g 0))).bind fun t605 => (impl_Night_isRound.j1 k X (q.length : Int) g X (X.length : Int) (q.length : Int) (!t605) l s t ov c)))) else (none)) else (none)) else (none)) else (impl_Night_isRound.j1 k X (q.length : Int) g X (X.length : Int) (q.length : Int) true l s t ov c))) (fun k => ?_) (Ev.bind (isGroup_ev l s t g hl (hs g hgX)) ?_)
    · simp only [impl_Night_isRound.l0]
      rw [if_pos h1, if_pos (zle _), if_pos h1, hr]
    have bad : Ev (fun k => impl_Night_isRound.j1 k X (q.length : Int) g X (X.length : Int) (q.length : Int) true l s t ov c) false := Ev.step (f := fun _ => some false) (fun k => by simp only [impl_Night_isRound.j1]; rfl) (Ev.now _)
    cases htg : tripP l.length s g with
    | false =>
      simp only [Bool.false_eq_true, if_false]
      exact ev_eq bad (by simp only [cI, htg, Bool.false_and])
    | true =>
      have hin : ∀ x ∈ g, 0 ≤ x ∧ x < (ov.length : Int) := by rw [hn]; exact tripP_in htg
      have hg0 : 0 < g.length := trip_pos htg
      have h0 : 0 ≤ rd g 0 ∧ rd g 0 < (ov.length : Int) := by
        match g, hg0, hin with
        | x :: g, _, hin => exact hin x (by simp)
      have htor : impl_Night_torches.f l s t ov c (rdOf false ov (rd g 0)) = some (torP t c (sideP ov g)) := by
        unfold impl_Night_torches.f torP
        show (if sideP ov g = true then _ else _) = _
        cases sideP ov g <;> rfl
      simp only [if_true, if_pos (show (0 : Int) < (g.length : Int) by omega), if_pos h0.1, if_pos h0.2]
      refine Ev.bind (ev_some htor) ?_
      by_cases hz : torP t c (sideP ov g) = 0
      · simp only [if_pos hz]
        exact ev_eq bad (by simp only [cI, htg, hz, decide_true, Bool.not_true, Bool.false_and, Bool.and_false])
      · simp only [if_neg hz]
        refine Ev.bind (ev_some (are_eq ov false g (rdOf false ov (rd g 0)) hin)) ?_
        cases hsm : sameP ov g with
        | false =>
          have hsm' : (g.all fun x => rdOf false ov x == rdOf false ov (rd g 0)) = false := hsm
          rw [hsm']
          exact ev_eq bad (by simp only [cI, hsm, Bool.false_and, Bool.and_false])
        | true =>
          have hsm' : (g.all fun x => rdOf false ov x == rdOf false ov (rd g 0)) = true := hsm
          rw [hsm']
          have h2 := ih (q ++ [g]) (some g) (by rw [e]; simp) ⟨q, rfl, htg⟩
          cases p with
          | none =>
            simp only at hp
            subst hp
            refine ev_eq (Ev.step (fun k => ?_) h2) (by simp only [cI, htg, hsm, hz, prevP, decide_false, Bool.not_false, Bool.true_and])
            simp only [impl_Night_isRound.j1]
            rw [if_neg (by simp), if_neg (by simp), hw]
          | some p =>
            obtain ⟨q', rfl, htp⟩ := hp
            have hl' : ((q' ++ [p]).length : Int) = (q'.length : Int) + 1 := by simp
            have hr0 : rd_L2 X (q'.length : Int) = p := by rw [e, List.append_assoc]; exact rd_L2_mid q' p _
            have hval : cI l.length s t ov c (some p) (g :: r) = ((ltL p g && togP t ov c p g) && cI l.length s t ov c (some g) r) := by simp only [cI, htg, hsm, hz, prevP, decide_false, Bool.not_false, Bool.true_and]
            rw [hval]
            refine Ev.step (f := fun k => (slices_Compare_int_int.f k p g).bind fun t607 => (if t607 ≥ 0 then (some false) else ((impl_Night_together.f l s t ov c p g).bind fun t609 => (if t609 = true then (impl_Night_isRound.l0 k X X (X.length : Int) (wrap64 (((q' ++ [p]).length : Int) + 1)) l s t ov c) else (some false))))) (fun k => ?_) (Ev.bind (compare_ev p g (hs p (by rw [e]; simp)) (hs g hgX)) ?_)
            · simp only [impl_Night_isRound.j1]
              rw [if_neg (by simp), if_pos (by rw [hl']; omega), show wrap64 (((q' ++ [p]).length : Int) - 1) = (q'.length : Int) by rw [hl']; exact wr_pred' _ (by omega), if_pos (zle _), if_pos (by omega), hr0]
            · have hcl := cmp_lt p g
              cases hlt : ltL p g with
              | false =>
                rw [hlt] at hcl
                simp only [if_pos (of_decide_eq_true hcl)]
                exact Ev.now _
              | true =>
                rw [hlt] at hcl
                simp only [if_neg (of_decide_eq_false hcl)]
                refine Ev.bind (ev_some (together_eq l s t ov c p g (trip_pos htp) hg0 (by rw [hn]; exact tripP_in htp) hin)) ?_
                cases togP t ov c p g with
                | false => exact Ev.now _
                | true =>
                  simp only [if_true, Bool.true_and]
                  rw [hw]
                  exact h2
theorem isRound_ev (l : List Int) (s t : Int) (ov : List Bool) (c : Int) (R : List (List Int)) (hl : l.length ≤ 1048576) (hn : ov.length = l.length) (hR : R.length ≤ 1048576) (hs : ∀ g ∈ R, g.length ≤ 1048576) : Ev (fun k => impl_Night_isRound.f k l s t ov c R) (roundP l.length s t ov c R) := by
  unfold impl_Night_isRound.f roundP
  refine Ev.bind (ev_some (in_eq _ _ _)) ?_
  cases inB 1 t (R.length : Int) with
  | false => exact Ev.now _
  | true =>
    simp only [if_true, Bool.true_and]
    exact isRound_loop l s t R ov c hl hR hn hs R [] none rfl rfl
theorem isCamp_eq (l : List Int) (s t : Int) (ov : List Bool) (c : Int) : impl_IsCamp.f l s t ov c = some (campP l s t ov c) := by
  unfold impl_IsCamp.f campP
  rw [isNight_eq, Option.bind_some]
  cases goodN l s t with
  | false => rfl
  | true =>
    rw [if_pos rfl]
    unfold impl_Night_hasCamp.f
    rw [in_eq]
    by_cases h : ov.length = l.length
    · rw [if_pos (by omega), decide_eq_true h]; rfl
    · rw [if_neg (by omega), decide_eq_false h]; rfl
theorem toCampG_ev (l : List Int) (s t : Int) (ov : List Bool) (c : Int) (hl : l.length ≤ 1048576) : Ev (fun k => spec_toCamp.f k l s t ov c) (campP l s t ov c) := by
  unfold spec_toCamp.f campP
  refine Ev.bind (toGood_ev l s t hl) ?_
  cases goodN l s t with
  | false => exact Ev.now _
  | true =>
    simp only [if_true, l1In_eq, Option.bind_some, Bool.true_and]
    by_cases h : ov.length = l.length
    · simp only [if_pos (show (ov.length : Int) = (l.length : Int) by omega), decide_eq_true h, Bool.true_and]; exact Ev.now _
    · simp only [if_neg (show ¬ (ov.length : Int) = (l.length : Int) by omega), decide_eq_false h, Bool.false_and]; exact Ev.now _
theorem campP_in {l : List Int} {s t : Int} {ov : List Bool} {c : Int} (h : campP l s t ov c = true) : goodN l s t = true ∧ ov.length = l.length ∧ 0 ≤ c ∧ c ≤ t := by
  unfold campP at h
  simp only [Bool.and_eq_true, decide_eq_true_eq, inB] at h
  exact ⟨h.1, h.2.1, h.2.2⟩
end Go.Proofs.Ytpobeakggacdpaa.Pure
