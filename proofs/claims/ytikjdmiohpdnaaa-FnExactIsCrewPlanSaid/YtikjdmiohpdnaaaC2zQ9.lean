import Derived.Test.YtikjdmiohpdnaaaC2zx0
import Derived.Test.YtikjdmiohpdnaaaC2zx3
import Derived.Test.YtikjdmiohpdnaaaC2zx6
import Derived.Test.YtikjdmiohpdnaaaC2zx7
import Derived.Test.YtikjdmiohpdnaaaC2zx8
import Derived.Test.YtikjdmiohpdnaaaC2zH0
import Derived.Test.YtikjdmiohpdnaaaC2zH1
import Derived.Test.YtikjdmiohpdnaaaC2zQ0
import Derived.Test.YtikjdmiohpdnaaaC2zQ1
import Derived.Test.YtikjdmiohpdnaaaC2zQ2
import Derived.Test.YtikjdmiohpdnaaaC2zQ3
import Derived.Test.YtikjdmiohpdnaaaC2zQ4
import Derived.Test.YtikjdmiohpdnaaaC2zQ5
import Derived.Test.YtikjdmiohpdnaaaC2zQ8
namespace Go.Proofs.Ytikjdmiohpdnaaa.Pure
open Go.RowKit Go.Proofs.Ytikjdmiohpdnaaa.C2 Go.Proofs.Ytikjdmiohpdnaaa.H Go.Proofs.YtikjdmiohpdnaaaW.PrintWords Go.Proofs.YtikjdmiohpdnaaaW.PrintLast Go.Proofs.YtikjdmiohpdnaaaW.PrintMore
set_option linter.unusedVariables false
set_option linter.unusedSimpArgs false
def rideC (l : List Int) (rw : List Bool) (m : Int) (st : List Bool) (b : Bool) (g : List Int) : Bool := grpC l.length g && ((g.all fun x => rdOf false st x == b) && (decide (loadP l g 0 ≤ m) && g.any fun x => rdOf false rw x))
theorem areS_eq (st : List Bool) (b : Bool) (t : List Int) (c : Bool) (h : ∀ x ∈ t, 0 ≤ x ∧ x < (st.length : Int)) : impl_State_are.f st b t c = some (t.all fun x => rdOf false st x == c) := by
  unfold impl_State_are.f
  rw [if_pos]
  rw [List.all_eq_true]
  intro x hx
  have := h x hx
  simp [this.1, this.2]
theorem carries_ev (l : List Int) (rw : List Bool) (m : Int) (g : List Int) (hg : g.length ≤ 1048576) (hi : ∀ x ∈ g, 0 ≤ x ∧ x < (l.length : Int)) (hr : rw.length = l.length) : Ev (fun k => impl_Crew_carries.f k l rw m g) (decide (loadP l g 0 ≤ m) && g.any fun x => rdOf false rw x) := by
  unfold impl_Crew_carries.f
  refine Ev.bind (load_ev l rw m g hg hi) ?_
  by_cases c : loadP l g 0 ≤ m
  · simp only [if_pos c, decide_eq_true c, Bool.true_and]
    refine ev_some ?_
    rw [if_pos]
    rw [List.all_eq_true]
    intro x hx
    have := hi x hx
    simp [this.1, hr, this.2]
  · simp only [if_neg c, decide_eq_false c, Bool.false_and]
    exact Ev.now _
theorem isRide_ev (l : List Int) (rw : List Bool) (m : Int) (st : List Bool) (b : Bool) (g : List Int) (hl : l.length ≤ 1048576) (hg : g.length ≤ 1048576) (hr : rw.length = l.length) (hs : st.length = l.length) : Ev (fun k => impl_Crew_isRide.f k l rw m st b g) (rideC l rw m st b g) := by
  unfold impl_Crew_isRide.f rideC
  refine Ev.bind (crewGroup_ev l rw m g hl hg) ?_
  cases hq : grpC l.length g with
  | false => exact Ev.now _
  | true =>
    simp only [if_true, Bool.true_and]
    refine Ev.bind (ev_some (areS_eq st b g b (by rw [hs]; exact grpC_in hq))) ?_
    cases (g.all fun x => rdOf false st x == b) with
    | false => exact Ev.now _
    | true =>
      simp only [if_true, Bool.true_and]
      exact Ev.bind (carries_ev l rw m g hg (grpC_in hq) hr) (Ev.now _)
theorem loCan_loop (l : List Int) (rw : List Bool) (m : Int) (st : List Bool) (b : Bool) : ∀ (r pre : List Int) (acc : Bool), (pre ++ r).length ≤ 1048576 → (∀ x ∈ r, 0 ≤ x ∧ x < (st.length : Int) ∧ x < (rw.length : Int)) → Ev (fun k => spec_loCan.l0 k acc (pre ++ r) ((pre ++ r).length : Int) (pre.length : Int) l rw m st b) ((r.all fun x => rdOf false st x == b) && (acc || r.any fun x => rdOf false rw x)) := by
  intro r
  induction r with
  | nil =>
    intro pre acc hl hi
    refine Ev.step (f := fun _ => some acc) (fun k => ?_) (ev_eq (Ev.now _) (by simp))
    simp only [spec_loCan.l0]
    rw [if_neg (nlt_end pre)]
  | cons x r ih =>
    intro pre acc hl hi
    have hx := hi x (by simp)
    by_cases c : rdOf false st x = b
    · cases acc with
      | true =>
        refine Ev.step (fun k => ?_) (ev_eq (ih (pre ++ [x]) true (by simpa using hl) (fun y hy => hi y (by simp [hy]))) (by simp [c]))
        simp only [spec_loCan.l0]
        rw [if_pos (lt_mid pre x r), if_pos (zle _), if_pos (lt_mid pre x r), rd_mid, if_pos hx.1, if_pos hx.2.1, if_neg (by simp [c]), wr_mid pre x r (by omega), app_mid pre x r]
        simp only [if_true]
      | false =>
        refine Ev.step (fun k => ?_) (ev_eq (ih (pre ++ [x]) (rdOf false rw x) (by simpa using hl) (fun y hy => hi y (by simp [hy]))) (by simp [c]))
        simp only [spec_loCan.l0]
        rw [if_pos (lt_mid pre x r), if_pos (zle _), if_pos (lt_mid pre x r), rd_mid, if_pos hx.1, if_pos hx.2.1, if_neg (by simp [c]), wr_mid pre x r (by omega), app_mid pre x r]
        simp only [Bool.false_eq_true, if_false, if_pos hx.2.2]
    · refine Ev.step (f := fun _ => some false) (fun k => ?_) (ev_eq (Ev.now _) (by simp [c]))
      simp only [spec_loCan.l0]
      rw [if_pos (lt_mid pre x r), if_pos (zle _), if_pos (lt_mid pre x r), rd_mid, if_pos hx.1, if_pos hx.2.1, if_pos (by simpa using c)]
theorem loCan_ev (l : List Int) (rw : List Bool) (m : Int) (st : List Bool) (b : Bool) (g : List Int) (hl : l.length ≤ 1048576) (hg : g.length ≤ 1048576) (hr : rw.length = l.length) (hs : st.length = l.length) : Ev (fun k => spec_loCan.f k l rw m st b g) (rideC l rw m st b g) := by
  unfold spec_loCan.f
  have bad : Ev (fun k => spec_loCan.j0 k g true l rw m st b) false := Ev.step (f := fun _ => some false) (fun k => by simp only [spec_loCan.j0]; rfl) (Ev.now _)
  by_cases h0 : g = []
  · subst h0
    simp only [List.length_nil, if_pos (show ((0 : Nat) : Int) = 0 from rfl)]
    exact ev_eq bad (by simp [rideC])
  · have hpos : ¬ (g.length : Int) = 0 := by
      intro e
      exact h0 (List.eq_nil_of_length_eq_zero (by omega))
    simp only [if_neg hpos, wr_id (show -9223372036854775808 ≤ (l.length : Int) - 1 by omega) (by omega)]
    refine Ev.bind (l1Rising_ev g 0 ((l.length : Int) - 1) (by omega)) ?_
    show Ev (fun k => if grpC l.length g = true then _ else _) _
    cases hq : grpC l.length g with
    | false =>
      simp only [Bool.false_eq_true, if_false]
      exact ev_eq bad (by simp [rideC, hq])
    | true =>
      have hin := grpC_in hq
      simp only [if_true]
      refine Ev.bind (loLoad_ev l rw m g hg hin) ?_
      by_cases c : loadP l g 0 ≤ m
      · simp only [decide_eq_false (show ¬ loadP l g 0 > m by omega)]
        refine Ev.step (f := fun k => spec_loCan.l0 k false g (g.length : Int) 0 l rw m st b) (fun k => by simp only [spec_loCan.j0]; rfl) ?_
        refine ev_eq (loCan_loop l rw m st b g [] false (by simpa using hg) (fun x hx => ⟨(hin x hx).1, by rw [hs]; exact (hin x hx).2, by rw [hr]; exact (hin x hx).2⟩)) ?_
        simp [rideC, hq, c]
      · simp only [decide_eq_true (show loadP l g 0 > m by omega)]
        exact ev_eq bad (by simp [rideC, hq, c])
theorem rideC_in {l : List Int} {rw : List Bool} {m : Int} {st : List Bool} {b : Bool} {g : List Int} (h : rideC l rw m st b g = true) : (∀ x ∈ g, 0 ≤ x ∧ x < (l.length : Int)) ∧ ∀ x ∈ g, rdOf false st x = b := by
  unfold rideC at h
  simp only [Bool.and_eq_true] at h
  refine ⟨grpC_in h.1, ?_⟩
  have := List.all_eq_true.1 h.2.1
  intro x hx
  simpa using this x hx
def codeN : List Bool → Nat → Nat → Nat
  | [], _, s => s
  | x :: r, i, s => codeN r (i + 1) (s ||| if x then 2 ^ i else 0)
theorem codeN_test : ∀ (r : List Bool) (i s j : Nat), (codeN r i s).testBit j = (s.testBit j || (decide (i ≤ j) && (r[j - i]?.getD false))) := by
  intro r
  induction r with
  | nil => intro i s j; simp [codeN]
  | cons x r ih =>
    intro i s j
    simp only [codeN]
    rw [ih, Nat.testBit_or]
    rcases Nat.lt_trichotomy j i with h | h | h
    · rw [decide_eq_false (show ¬ i + 1 ≤ j by omega), decide_eq_false (show ¬ i ≤ j by omega)]
      cases x with
      | true => simp only [if_true]; rw [Nat.testBit_two_pow, decide_eq_false (show ¬ i = j by omega)]; simp
      | false => simp
    · subst h
      rw [decide_eq_false (show ¬ j + 1 ≤ j by omega), decide_eq_true (Nat.le_refl j)]
      cases x with
      | true => simp only [if_true]; rw [Nat.testBit_two_pow]; simp
      | false => simp
    · rw [decide_eq_true (show i + 1 ≤ j by omega), decide_eq_true (show i ≤ j by omega)]
      have e : j - i = (j - (i + 1)) + 1 := by omega
      rw [e, List.getElem?_cons_succ]
      cases x with
      | true => simp only [if_true]; rw [Nat.testBit_two_pow, decide_eq_false (show ¬ i = j by omega)]; simp
      | false => simp
def codeP (o : List Bool) (b : Bool) : Nat := codeN o 0 (if b then 2 ^ o.length else 0)
theorem codeP_last (o : List Bool) (b : Bool) : codeP o b = 2 ^ (o.length + 1) - 1 ↔ (b && o.all id) = true := by
  unfold codeP
  constructor
  · intro h
    have hb : ∀ j, (codeN o 0 (if b then 2 ^ o.length else 0)).testBit j = decide (j < o.length + 1) := by
      intro j
      rw [h, Nat.testBit_two_pow_sub_one]
    have h1 := hb o.length
    rw [codeN_test] at h1
    have hbt : b = true := by
      cases b with
      | true => rfl
      | false => simp at h1
    subst hbt
    rw [Bool.true_and, List.all_eq_true]
    intro x hx
    obtain ⟨j, hj, rfl⟩ := List.getElem_of_mem hx
    have h2 := hb j
    rw [codeN_test] at h2
    simp only [if_true] at h2
    rw [Nat.testBit_two_pow, decide_eq_false (show ¬ o.length = j by omega), decide_eq_true (show j < o.length + 1 by omega)] at h2
    simpa [List.getElem?_eq_getElem hj] using h2
  · intro h
    simp only [Bool.and_eq_true, List.all_eq_true] at h
    obtain ⟨rfl, ho⟩ := h
    apply Nat.eq_of_testBit_eq
    intro j
    rw [codeN_test, Nat.testBit_two_pow_sub_one]
    simp only [if_true]
    rw [Nat.testBit_two_pow]
    rcases Nat.lt_trichotomy j o.length with hj | hj | hj
    · rw [decide_eq_true (show j < o.length + 1 by omega)]
      have := ho o[j] (List.getElem_mem hj)
      simp [List.getElem?_eq_getElem hj]
      right
      simpa using this
    · subst hj
      simp
    · rw [decide_eq_false (show ¬ o.length = j by omega), decide_eq_false (show ¬ j < o.length + 1 by omega)]
      simp [List.getElem?_eq_none (show o.length ≤ j by omega)]
theorem bit_eq (b : Bool) : impl_bit.f b = some (if b then 1 else 0) := by cases b <;> rfl
theorem shl_bit (b : Bool) (i : Nat) (h : i < 40) : shl .i64 (if b then 1 else 0) (i : Int) = (((if b then 2 ^ i else 0 : Nat)) : Int) := by
  cases b with
  | true => simp only [if_true]; rw [shl_one (i : Int) (by omega) (by omega), Int.toNat_natCast]
  | false =>
    simp only [Bool.false_eq_true, if_false]
    unfold shl
    rw [Int.zero_mul]
    rfl
theorem code_loop : ∀ (r pre : List Bool) (s : Nat), (pre ++ r).length ≤ 40 → s < 2 ^ 40 → Ev (fun k => impl_State_code.l0 k (s : Int) (pre ++ r) ((pre ++ r).length : Int) (pre.length : Int)) ((codeN r pre.length s : Nat) : Int) := by
  intro r
  induction r with
  | nil =>
    intro pre s hl hs
    refine Ev.step (f := fun _ => some _) (fun k => ?_) (Ev.now _)
    simp only [impl_State_code.l0]
    rw [if_neg (nlt_end pre)]
    rfl
  | cons x r ih =>
    intro pre s hl hs
    have hp : pre.length < 40 := by simp at hl; omega
    have ht : (if x then 2 ^ pre.length else 0) < 2 ^ 40 := by
      cases x with
      | true => simp only [if_true]; exact Nat.pow_lt_pow_right (by omega) (by omega)
      | false => simp only [Bool.false_eq_true, if_false]; decide
    refine Ev.step (fun k => ?_) (ev_eq (ih (pre ++ [x]) (s ||| if x then 2 ^ pre.length else 0) (by simpa using hl) (Nat.or_lt_two_pow hs ht)) (by simp [codeN]))
    simp only [impl_State_code.l0]
    rw [if_pos (lt_mid pre x r), if_pos (zle _), if_pos (lt_mid pre x r), rdOf_mid, bit_eq, Option.bind_some, shl_bit x _ hp, bits_or_n s _ (by omega) (by omega), wr_mid pre x r (by omega), app_mid pre x r]
theorem code_ev (o : List Bool) (b : Bool) (ho : o.length < 40) : Ev (fun k => impl_State_code.f k o b) ((codeP o b : Nat) : Int) := by
  unfold impl_State_code.f codeP
  have ht : (if b then 2 ^ o.length else 0) < 2 ^ 40 := by
    cases b with
    | true => simp only [if_true]; exact Nat.pow_lt_pow_right (by omega) (by omega)
    | false => simp only [Bool.false_eq_true, if_false]; decide
  refine Ev.bind (ev_some (bit_eq b)) ?_
  rw [shl_bit b _ ho]
  exact code_loop o [] _ (by simp; omega) ht
theorem last_eq (n : Nat) (h : n < 39) : impl_last.f (n : Int) = some (((2 ^ (n + 1) - 1 : Nat)) : Int) := by
  unfold impl_last.f
  have hw : wrap64 ((n : Int) + 1) = ((n + 1 : Nat) : Int) := by rw [wr_id (by omega) (by omega)]; rfl
  have h1 : 2 ^ (n + 1) < 2 ^ 40 := Nat.pow_lt_pow_right (by omega) (by omega)
  have h2 : 0 < 2 ^ (n + 1) := Nat.pow_pos (by omega)
  rw [hw, if_pos (zle _), shl_one _ (zle _) (by omega), Int.toNat_natCast]
  generalize 2 ^ (n + 1) = q at *
  rw [wr_id (by omega) (by omega)]
  congr 1
  omega
def playC (l : List Int) (rw : List Bool) (m : Int) : List (List Int) → List Bool → Bool → Option (List Bool × Bool)
  | [], st, b => some (st, b)
  | g :: gs, st, b => if rideC l rw m st b g then playC l rw m gs (mv (!b) g st) (!b) else none
end Go.Proofs.Ytikjdmiohpdnaaa.Pure
