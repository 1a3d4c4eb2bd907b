import Derived.Test.YtikjdmiohpdnaaaC5zx0
import Derived.Test.YtikjdmiohpdnaaaC5zx2
import Derived.Test.YtikjdmiohpdnaaaC5zx3
import Derived.Test.YtikjdmiohpdnaaaC5zx6
import Derived.Test.YtikjdmiohpdnaaaC5zH0
import Derived.Test.YtikjdmiohpdnaaaC5zH1
import Derived.Test.YtikjdmiohpdnaaaC5zQ0
import Derived.Test.YtikjdmiohpdnaaaC5zQ1
import Derived.Test.YtikjdmiohpdnaaaC5zQ2
import Derived.Test.YtikjdmiohpdnaaaC5zQ3
import Derived.Test.YtikjdmiohpdnaaaC5zQ4
import Derived.Test.YtikjdmiohpdnaaaC5zQ5
namespace Go.Proofs.Ytikjdmiohpdnaaa.Pure
open Go.RowKit Go.Proofs.Ytikjdmiohpdnaaa.C5 Go.Proofs.Ytikjdmiohpdnaaa.H Go.Proofs.YtikjdmiohpdnaaaW.PrintWords Go.Proofs.YtikjdmiohpdnaaaW.PrintLast Go.Proofs.YtikjdmiohpdnaaaW.PrintMore
set_option linter.unusedVariables false
set_option linter.unusedSimpArgs false
def goodC (l : List Int) (rw : List Bool) (m : Int) : Bool := inB 1 7 (l.length : Int) && l.all (inB 1 500) && (decide (rw.length = l.length) && inB 0 2000 m)
theorem goodC_in {l : List Int} {rw : List Bool} {m : Int} (h : goodC l rw m = true) : 1 ≤ l.length ∧ l.length ≤ 7 ∧ rw.length = l.length := by
  unfold goodC at h
  simp only [Bool.and_eq_true, inB, decide_eq_true_eq] at h
  omega
theorem isCrew_eq (l : List Int) (rw : List Bool) (m : Int) : impl_IsCrew.f l rw m = some (goodC l rw m) := by
  unfold impl_IsCrew.f goodC
  rw [areIn_eq, in_eq]
  by_cases h : rw.length = l.length
  · rw [if_pos (show (rw.length : Int) = (l.length : Int) by omega), decide_eq_true h]
    cases inB 1 7 (l.length : Int) <;> cases l.all (inB 1 500) <;> cases inB 0 2000 m <;> rfl
  · rw [if_neg (show ¬ (rw.length : Int) = (l.length : Int) by omega), decide_eq_false h]
    cases inB 1 7 (l.length : Int) <;> cases l.all (inB 1 500) <;> cases inB 0 2000 m <;> rfl
theorem loGood_ev (l : List Int) (rw : List Bool) (m : Int) (hl : l.length ≤ 1048576) : Ev (fun k => spec_loGood.f k l rw m) (goodC l rw m) := by
  obtain ⟨K, e⟩ := l1All_ev l 1 500 (by omega)
  dsimp only at e
  refine ⟨K, fun k hk => ?_⟩
  unfold spec_loGood.f goodC
  simp only [l1In_eq, e k hk, Option.bind_some]
  by_cases h : rw.length = l.length
  · rw [if_pos (show (rw.length : Int) = (l.length : Int) by omega), decide_eq_true h]
    cases inB 1 7 (l.length : Int) <;> cases l.all (inB 1 500) <;> cases inB 0 2000 m <;> rfl
  · rw [if_neg (show ¬ (rw.length : Int) = (l.length : Int) by omega), decide_eq_false h]
    cases inB 1 7 (l.length : Int) <;> cases l.all (inB 1 500) <;> cases inB 0 2000 m <;> rfl
theorem risF_len : ∀ (r : List Int) (p m : Int), risF p r = true → (∀ y ∈ r, y ≤ m) → p ≤ m → p + (r.length : Int) ≤ m := by
  intro r
  induction r with
  | nil => intro p m _ _ h; simpa using h
  | cons y r ih =>
    intro p m h hm hp
    simp only [risF, Bool.and_eq_true, decide_eq_true_eq] at h
    have := ih y m h.2 (fun z hz => hm z (by simp [hz])) (hm y (by simp))
    simp only [List.length_cons]
    omega
def grpC (n : Nat) (g : List Int) : Bool := g.all (inB 0 ((n : Int) - 1)) && risP g
theorem grpC_len {n : Nat} {g : List Int} (h : grpC n g = true) : g.length ≤ n := by
  unfold grpC at h
  simp only [Bool.and_eq_true, List.all_eq_true] at h
  cases g with
  | nil => simp
  | cons x r =>
    have hx := h.1 x (by simp)
    simp only [inB, Bool.and_eq_true, decide_eq_true_eq] at hx
    have := risF_len r x ((n : Int) - 1) h.2 (fun y hy => by have := h.1 y (by simp [hy]); simp only [inB, Bool.and_eq_true, decide_eq_true_eq] at this; omega) (by omega)
    simp only [List.length_cons]
    omega
theorem grpC_in {n : Nat} {g : List Int} (h : grpC n g = true) : ∀ x ∈ g, 0 ≤ x ∧ x < (n : Int) := by
  unfold grpC at h
  simp only [Bool.and_eq_true, List.all_eq_true] at h
  intro x hx
  have := h.1 x hx
  simp only [inB, Bool.and_eq_true, decide_eq_true_eq] at this
  omega
theorem crewGroup_ev (l : List Int) (rw : List Bool) (m : Int) (g : List Int) (hl : l.length ≤ 1048576) (hg : g.length ≤ 1048576) : Ev (fun k => impl_Crew_isGroup.f k l rw m g) (grpC l.length g) := by
  obtain ⟨K, e⟩ := rises_ev g (by omega)
  dsimp only at e
  refine ⟨K, fun k hk => ?_⟩
  unfold impl_Crew_isGroup.f
  simp only [areIn_eq, e k hk, Option.bind_some, wr_id (show -9223372036854775808 ≤ (l.length : Int) - 1 by omega) (by omega)]
  cases hc : grpC l.length g with
  | true =>
    have h1 := grpC_len hc
    have h2 : inB 0 (l.length : Int) (g.length : Int) = true := by simp only [inB, Bool.and_eq_true, decide_eq_true_eq]; omega
    unfold grpC at hc
    simp only [Bool.and_eq_true] at hc
    rw [h2, hc.1, hc.2]
    rfl
  | false =>
    unfold grpC at hc
    cases inB 0 (l.length : Int) (g.length : Int) <;> cases h3 : g.all (inB 0 ((l.length : Int) - 1)) <;> cases h4 : risP g <;> simp_all
def loadP (l : List Int) : List Int → Int → Int
  | [], a => a
  | x :: r, a => loadP l r (wrap64 (a + rd l x))
theorem load_loop (l : List Int) (rw : List Bool) (m : Int) : ∀ (r pre : List Int) (a : Int), (pre ++ r).length ≤ 1048576 → (∀ x ∈ r, 0 ≤ x ∧ x < (l.length : Int)) → Ev (fun k => impl_Crew_load.l0 k a (pre ++ r) ((pre ++ r).length : Int) (pre.length : Int) l rw m) (loadP l r a) := by
  intro r
  induction r with
  | nil =>
    intro pre a hl hi
    refine Ev.step (f := fun _ => some _) (fun k => ?_) (Ev.now _)
    simp only [impl_Crew_load.l0]
    rw [if_neg (nlt_end pre)]
    rfl
  | cons x r ih =>
    intro pre a hl hi
    have hx := hi x (by simp)
    refine Ev.step (fun k => ?_) (ih (pre ++ [x]) (wrap64 (a + rd l x)) (by simpa using hl) (fun y hy => hi y (by simp [hy])))
    simp only [impl_Crew_load.l0]
    rw [if_pos (lt_mid pre x r), if_pos (zle _), if_pos (lt_mid pre x r), rd_mid, if_pos hx.1, if_pos hx.2, wr_mid pre x r (by omega), app_mid pre x r]
theorem load_ev (l : List Int) (rw : List Bool) (m : Int) (g : List Int) (hg : g.length ≤ 1048576) (hi : ∀ x ∈ g, 0 ≤ x ∧ x < (l.length : Int)) : Ev (fun k => impl_Crew_load.f k l rw m g) (loadP l g 0) := load_loop l rw m g [] 0 (by simpa using hg) hi
theorem loLoad_loop (l : List Int) (rw : List Bool) (m : Int) : ∀ (r pre : List Int) (a : Int), (pre ++ r).length ≤ 1048576 → (∀ x ∈ r, 0 ≤ x ∧ x < (l.length : Int)) → Ev (fun k => spec_loLoad.l0 k a (pre ++ r) ((pre ++ r).length : Int) (pre.length : Int) l rw m) (loadP l r a) := by
  intro r
  induction r with
  | nil =>
    intro pre a hl hi
    refine Ev.step (f := fun _ => some _) (fun k => ?_) (Ev.now _)
    simp only [spec_loLoad.l0]
    rw [if_neg (nlt_end pre)]
    rfl
  | cons x r ih =>
    intro pre a hl hi
    have hx := hi x (by simp)
    refine Ev.step (fun k => ?_) (ih (pre ++ [x]) (wrap64 (a + rd l x)) (by simpa using hl) (fun y hy => hi y (by simp [hy])))
    simp only [spec_loLoad.l0]
    rw [if_pos (lt_mid pre x r), if_pos (zle _), if_pos (lt_mid pre x r), rd_mid, if_pos hx.1, if_pos hx.2, wr_mid pre x r (by omega), app_mid pre x r]
theorem loLoad_ev (l : List Int) (rw : List Bool) (m : Int) (g : List Int) (hg : g.length ≤ 1048576) (hi : ∀ x ∈ g, 0 ≤ x ∧ x < (l.length : Int)) : Ev (fun k => spec_loLoad.f k l rw m g) (loadP l g 0) := loLoad_loop l rw m g [] 0 (by simpa using hg) hi
end Go.Proofs.Ytikjdmiohpdnaaa.Pure
