import Derived.Test.YtpobeakggacdpaaC10zx0
import Derived.Test.YtpobeakggacdpaaC10zx3
import Derived.Test.YtpobeakggacdpaaC10zx4
import Derived.Test.YtpobeakggacdpaaC10zx7
import Derived.Test.YtpobeakggacdpaaC10zx8
import Derived.Test.YtpobeakggacdpaaC10zH0
import Derived.Test.YtpobeakggacdpaaC10zH1
import Derived.Test.YtpobeakggacdpaaC10zQ0
import Derived.Test.YtpobeakggacdpaaC10zQ1
import Derived.Test.YtpobeakggacdpaaC10zQ2
import Derived.Test.YtpobeakggacdpaaC10zQ3
import Derived.Test.YtpobeakggacdpaaC10zQ4
namespace Go.Proofs.Ytpobeakggacdpaa.Pure
open Go.RowKit Go.Proofs.Ytpobeakggacdpaa.C10 Go.Proofs.Ytpobeakggacdpaa.H Go.Proofs.YtpobeakggacdpaaW.PrintWords Go.Proofs.YtpobeakggacdpaaW.PrintLast Go.Proofs.YtpobeakggacdpaaW.PrintMore
set_option linter.unusedVariables false
set_option linter.unusedSimpArgs false
theorem bits_and_n (a b : Nat) (ha : a < 4611686018427387904) (hb : b < 4611686018427387904) : Go.bits .and .i64 (a : Int) (b : Int) = ((a &&& b : Nat) : Int) := by
  have hx : a &&& b < 2 ^ 62 := Nat.and_lt_two_pow _ (by omega)
  have h1 : (BitVec.ofInt 64 (a : Int)).toNat = a := by
    rw [BitVec.ofInt_natCast, BitVec.toNat_ofNat]; exact Nat.mod_eq_of_lt (by omega)
  have h2 : (BitVec.ofInt 64 (b : Int)).toNat = b := by
    rw [BitVec.ofInt_natCast, BitVec.toNat_ofNat]; exact Nat.mod_eq_of_lt (by omega)
  show IntKind.i64.wrap ((BitVec.ofInt 64 (a : Int) &&& BitVec.ofInt 64 (b : Int)).toNat : Int) = _
  rw [BitVec.toNat_and, h1, h2, i64_w, wr_id (by omega) (by omega)]
theorem bits_or_n (a b : Nat) (ha : a < 4611686018427387904) (hb : b < 4611686018427387904) : Go.bits .or .i64 (a : Int) (b : Int) = ((a ||| b : Nat) : Int) := by
  have hx : a ||| b < 2 ^ 62 := Nat.or_lt_two_pow (by omega) (by omega)
  have h1 : (BitVec.ofInt 64 (a : Int)).toNat = a := by
    rw [BitVec.ofInt_natCast, BitVec.toNat_ofNat]; exact Nat.mod_eq_of_lt (by omega)
  have h2 : (BitVec.ofInt 64 (b : Int)).toNat = b := by
    rw [BitVec.ofInt_natCast, BitVec.toNat_ofNat]; exact Nat.mod_eq_of_lt (by omega)
  show IntKind.i64.wrap ((BitVec.ofInt 64 (a : Int) ||| BitVec.ofInt 64 (b : Int)).toNat : Int) = _
  rw [BitVec.toNat_or, h1, h2, i64_w, wr_id (by omega) (by omega)]
theorem shl_one (x : Int) (h0 : 0 ≤ x) (h : x < 40) : shl .i64 1 x = ((2 ^ x.toNat : Nat) : Int) := by
  have h2 : 2 ^ x.toNat < 2 ^ 40 := Nat.pow_lt_pow_right (by omega) (by omega)
  unfold shl
  rw [Nat.min_eq_left (show x.toNat ≤ IntKind.i64.bits by show x.toNat ≤ 64; omega), i64_w, Int.one_mul]
  rw [show ((2 : Int) ^ x.toNat) = ((2 ^ x.toNat : Nat) : Int) by simp]
  exact (show ∀ q : Nat, q < 2 ^ 40 → wrap64 (q : Int) = q from fun q hq => wr_id (by omega) (by omega)) _ h2
def bitsN : List Int → Nat → Nat
  | [], s => s
  | x :: r, s => bitsN r (s ||| 2 ^ x.toNat)
theorem bitsN_lt : ∀ (r : List Int) (s : Nat), s < 2 ^ 40 → (∀ x ∈ r, 0 ≤ x ∧ x < 40) → bitsN r s < 2 ^ 40 := by
  intro r
  induction r with
  | nil => intro s h _; exact h
  | cons x r ih =>
    intro s h hi
    have hx := hi x (by simp)
    exact ih _ (Nat.or_lt_two_pow h (Nat.pow_lt_pow_right (by omega) (by omega))) (fun y hy => hi y (by simp [hy]))
theorem bitsN_test : ∀ (r : List Int) (s i : Nat), (bitsN r s).testBit i = (s.testBit i || r.any fun x => x.toNat == i) := by
  intro r
  induction r with
  | nil => intro s i; simp [bitsN]
  | cons x r ih =>
    intro s i
    simp only [bitsN]
    rw [ih, Nat.testBit_or, Nat.testBit_two_pow, List.any_cons, Bool.or_assoc]
    congr 2
theorem cuBits_loop : ∀ (r pre : List Int) (s : Nat), (pre ++ r).length ≤ 9223372036854775807 → s < 2 ^ 40 → (∀ x ∈ r, 0 ≤ x ∧ x < 40) → Ev (fun k => spec_cuBits.l0 k (s : Int) (pre ++ r) ((pre ++ r).length : Int) (pre.length : Int)) ((bitsN r s : Nat) : Int) := by
  intro r
  induction r with
  | nil =>
    intro pre s hl hs hi
    refine Ev.step (f := fun _ => some _) (fun k => ?_) (Ev.now _)
    simp only [spec_cuBits.l0]
    rw [if_neg (nlt_end pre)]
    rfl
  | cons x r ih =>
    intro pre s hl hs hi
    have hx := hi x (by simp)
    have hp : 2 ^ x.toNat < 2 ^ 40 := Nat.pow_lt_pow_right (by omega) (by omega)
    refine Ev.step (fun k => ?_) (ih (pre ++ [x]) (s ||| 2 ^ x.toNat) (by simpa using hl) (Nat.or_lt_two_pow hs hp) (fun y hy => hi y (by simp [hy])))
    simp only [spec_cuBits.l0]
    rw [if_pos (lt_mid pre x r), if_pos (zle _), if_pos (lt_mid pre x r), rd_mid, if_pos hx.1, shl_one x hx.1 hx.2, bits_or_n s _ (by omega) (by omega), wr_mid pre x r hl, app_mid pre x r]
theorem cuBits_ev (g : List Int) (hl : g.length ≤ 1048576) (hi : ∀ x ∈ g, 0 ≤ x ∧ x < 40) : Ev (fun k => spec_cuBits.f k g) ((bitsN g 0 : Nat) : Int) := cuBits_loop g [] 0 (by simp; omega) (by decide) hi
def shareP (a b : List Int) : Bool := a.any fun x => b.any fun y => x == y
theorem share_bits (a b : List Int) (ha : ∀ x ∈ a, 0 ≤ x) (hb : ∀ x ∈ b, 0 ≤ x) : (bitsN a 0 &&& bitsN b 0 = 0) ↔ shareP a b = false := by
  constructor
  · intro h
    cases hs : shareP a b with
    | false => rfl
    | true =>
      exfalso
      unfold shareP at hs
      obtain ⟨x, hx, hy⟩ := List.any_eq_true.1 hs
      obtain ⟨y, hy, e⟩ := List.any_eq_true.1 hy
      have e : x = y := by simpa using e
      subst e
      have := congrArg (fun n => Nat.testBit n x.toNat) h
      simp only [Nat.testBit_and, bitsN_test, Nat.zero_testBit, Bool.false_or] at this
      have h1 : (a.any fun z => z.toNat == x.toNat) = true := List.any_eq_true.2 ⟨x, hx, by simp⟩
      have h2 : (b.any fun z => z.toNat == x.toNat) = true := List.any_eq_true.2 ⟨x, hy, by simp⟩
      rw [h1, h2] at this
      cases this
  · intro h
    apply Nat.eq_of_testBit_eq
    intro i
    simp only [Nat.testBit_and, bitsN_test, Nat.zero_testBit, Bool.false_or]
    cases h1 : (a.any fun z => z.toNat == i) with
    | false => rfl
    | true =>
      cases h2 : (b.any fun z => z.toNat == i) with
      | false => rfl
      | true =>
        exfalso
        obtain ⟨x, hx, e1⟩ := List.any_eq_true.1 h1
        obtain ⟨y, hy, e2⟩ := List.any_eq_true.1 h2
        have e1 : x.toNat = i := by simpa using e1
        have e2 : y.toNat = i := by simpa using e2
        have h3 := ha x hx
        have h4 := hb y hy
        have e : x = y := by omega
        subst e
        have : shareP a b = true := List.any_eq_true.2 ⟨x, hx, List.any_eq_true.2 ⟨x, hy, by simp⟩⟩
        rw [h] at this
        cases this
theorem share_eq (a b : List Int) : impl_share.f a b = some (shareP a b) := rfl
def gOk (n : Nat) (s : Int) : List (List Int) → Nat → Bool
  | [], _ => true
  | g :: r, b => tripP n s g && (decide (b &&& bitsN g 0 = 0) && gOk n s r (b ||| bitsN g 0))
def rOk (n : Nat) (s : Int) : Option (List Int) → List (List Int) → Bool
  | _, [] => true
  | p, g :: r => tripP n s g && ((match p with | none => true | some q => !shareP q g) && rOk n s (some g) r)
theorem gOk_rOk (n : Nat) (s : Int) (R : List (List Int)) (h : R.length ≤ 2) : gOk n s R 0 = rOk n s none R := by
  match R, h with
  | [], _ => rfl
  | [g], _ => simp [gOk, rOk]
  | [g, q], _ =>
    simp only [gOk, rOk]
    cases hg : tripP n s g with
    | false => rfl
    | true =>
      cases hq : tripP n s q with
      | false => simp
      | true =>
        have := share_bits g q (fun x hx => (tripP_in hg x hx).1) (fun x hx => (tripP_in hq x hx).1)
        simp only [Nat.zero_and, Nat.zero_or, decide_true, Bool.true_and, Bool.and_true]
        cases hs : shareP g q with
        | false => simp [this.2 hs]
        | true =>
          have hn : ¬ bitsN g 0 &&& bitsN q 0 = 0 := fun e => by have := this.1 e; rw [hs] at this; cases this
          simp [hn]
def grpP (n : Nat) (s t : Int) (R : List (List Int)) : Bool := inB 1 t (R.length : Int) && gOk n s R 0
theorem gOk_in {n : Nat} {s : Int} : ∀ (R : List (List Int)) (b : Nat), gOk n s R b = true → ∀ g ∈ R, tripP n s g = true := by
  intro R
  induction R with
  | nil => intro b h g hg; cases hg
  | cons g r ih =>
    intro b h
    simp only [gOk, Bool.and_eq_true] at h
    intro q hq
    rcases List.mem_cons.1 hq with rfl | hq
    · exact h.1
    · exact ih _ h.2.2 q hq
theorem toGroups_loop (l : List Int) (s t : Int) (hn : l.length ≤ 40) : ∀ (r pre : List (List Int)) (b : Nat), (pre ++ r).length ≤ 1048576 → (∀ g ∈ r, g.length ≤ 1048576) → b < 2 ^ 40 → Ev (fun k => spec_toGroups.l0 k (b : Int) (pre ++ r) ((pre ++ r).length : Int) (pre.length : Int) l s t) (gOk l.length s r b) := by
  intro r
  induction r with
  | nil =>
    intro pre b hl ht hb
    refine Ev.step (f := fun _ => some true) (fun k => ?_) (Ev.now _)
    simp only [spec_toGroups.l0]
    rw [if_neg (nlt_end pre)]
  | cons g r ih =>
    intro pre b hl ht hb
    have hg := ht g (by simp)
    obtain ⟨K1, e1⟩ := l1Rising_ev g 0 ((l.length : Int) - 1) (by omega)
    dsimp only at e1
    have hw : wrap64 ((l.length : Int) - 1) = (l.length : Int) - 1 := wr_id (by omega) (by omega)
    cases hi : inB 1 s (g.length : Int) with
    | false =>
      refine Ev.step (f := fun _ => some false) (fun k => ?_) (ev_eq (Ev.now _) (by simp [gOk, tripP, hi]))
      simp only [spec_toGroups.l0]
      rw [if_pos (lt_mid pre g r), if_pos (zle _), if_pos (lt_mid pre g r), rd_L2_mid, l1In_eq, hi, Option.bind_some, if_neg (by simp)]
    | true =>
      cases hr : (g.all (inB 0 ((l.length : Int) - 1)) && risP g) with
      | false =>
        refine ⟨K1 + 1, fun k hk => ?_⟩
        obtain ⟨k, rfl⟩ : ∃ j, k = j + 1 := ⟨k - 1, by omega⟩
        have : gOk l.length s (g :: r) b = false := by simp only [gOk, tripP, hi, Bool.true_and, hr, Bool.false_and]
        rw [this]
        simp only [spec_toGroups.l0]
        rw [if_pos (lt_mid pre g r), if_pos (zle _), if_pos (lt_mid pre g r), rd_L2_mid, l1In_eq, hi, Option.bind_some, if_pos rfl, hw, e1 k (by omega), hr, Option.bind_some, if_neg (by simp)]
      | true =>
        have htr : tripP l.length s g = true := by unfold tripP; rw [hi, Bool.true_and]; exact hr
        have hin : ∀ x ∈ g, 0 ≤ x ∧ x < 40 := fun x hx => by have := tripP_in htr x hx; omega
        obtain ⟨K2, e2⟩ := cuBits_ev g hg hin
        dsimp only at e2
        have hbl := bitsN_lt g 0 (by decide) hin
        by_cases hz : b &&& bitsN g 0 = 0
        · obtain ⟨K3, e3⟩ := ih (pre ++ [g]) (b ||| bitsN g 0) (by simpa using hl) (fun y hy => ht y (by simp [hy])) (Nat.or_lt_two_pow hb hbl)
          refine ⟨K1 + K2 + K3 + 1, fun k hk => ?_⟩
          obtain ⟨k, rfl⟩ : ∃ j, k = j + 1 := ⟨k - 1, by omega⟩
          have : gOk l.length s (g :: r) b = gOk l.length s r (b ||| bitsN g 0) := by simp [gOk, htr, hz]
          rw [this, ← e3 k (by omega)]
          simp only [spec_toGroups.l0]
          rw [if_pos (lt_mid pre g r), if_pos (zle _), if_pos (lt_mid pre g r), rd_L2_mid, l1In_eq, hi, Option.bind_some, if_pos rfl, hw, e1 k (by omega), hr, Option.bind_some, if_pos rfl, e2 k (by omega), Option.bind_some, bits_and_n _ _ (by omega) (by omega), hz, if_pos (show ((0 : Nat) : Int) = 0 from rfl), Option.bind_some, bits_or_n _ _ (by omega) (by omega), wr_mid pre g r (by omega), app_mid pre g r]
        · refine ⟨K1 + K2 + 1, fun k hk => ?_⟩
          obtain ⟨k, rfl⟩ : ∃ j, k = j + 1 := ⟨k - 1, by omega⟩
          have : gOk l.length s (g :: r) b = false := by simp [gOk, hz]
          rw [this]
          simp only [spec_toGroups.l0]
          rw [if_pos (lt_mid pre g r), if_pos (zle _), if_pos (lt_mid pre g r), rd_L2_mid, l1In_eq, hi, Option.bind_some, if_pos rfl, hw, e1 k (by omega), hr, Option.bind_some, if_pos rfl, e2 k (by omega), Option.bind_some, bits_and_n _ _ (by omega) (by omega), if_neg (by omega)]
theorem toGroups_ev (l : List Int) (s t : Int) (R : List (List Int)) (hn : l.length ≤ 40) (hR : R.length ≤ 1048576) (ht : ∀ g ∈ R, g.length ≤ 1048576) : Ev (fun k => spec_toGroups.f k l s t R) (grpP l.length s t R) := by
  unfold spec_toGroups.f grpP
  refine Ev.bind (ev_some (l1In_eq _ _ _)) ?_
  cases inB 1 t (R.length : Int) with
  | false => exact Ev.now _
  | true =>
    simp only [if_true, Bool.true_and]
    exact toGroups_loop l s t hn R [] 0 (by simpa using hR) ht (by decide)
theorem isGroup_ev (l : List Int) (s q : Int) (t : List Int) (hl : l.length ≤ 1048576) (ht : t.length ≤ 1048576) : Ev (fun k => impl_Night_isGroup.f k l s q t) (tripP l.length s t) := by
  obtain ⟨K, e⟩ := rises_ev t (by omega)
  refine ⟨K, fun k hk => ?_⟩
  unfold impl_Night_isGroup.f tripP
  simp only [areIn_eq, e k hk, Option.bind_some, wr_id (show -9223372036854775808 ≤ (l.length : Int) - 1 by omega) (by omega)]
  cases inB 1 s (t.length : Int) <;> cases t.all (inB 0 ((l.length : Int) - 1)) <;> cases risP t <;> rfl
theorem goodN_len {l : List Int} {s t : Int} (h : goodN l s t = true) : l.length ≤ 6 ∧ t ≤ 2 ∧ 1 ≤ t := by
  unfold goodN at h
  simp only [Bool.and_eq_true] at h
  have h1 := h.1.1.1
  have h2 := h.2
  simp only [inB, Bool.and_eq_true, decide_eq_true_eq] at h1 h2
  omega
theorem trip_pos {n : Nat} {s : Int} {g : List Int} (h : tripP n s g = true) : 0 < g.length := by
  unfold tripP at h
  simp only [Bool.and_eq_true] at h
  have := h.1.1
  simp only [inB, Bool.and_eq_true, decide_eq_true_eq] at this
  omega
end Go.Proofs.Ytpobeakggacdpaa.Pure
