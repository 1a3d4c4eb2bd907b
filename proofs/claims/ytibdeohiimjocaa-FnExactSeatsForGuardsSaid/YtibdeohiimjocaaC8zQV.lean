import Derived.Test.YtibdeohiimjocaaC8zx0
import Derived.Test.YtibdeohiimjocaaC8zx5
import Derived.Test.YtibdeohiimjocaaC8zH0
import Derived.Test.YtibdeohiimjocaaC8zH1
import Derived.Test.YtibdeohiimjocaaC8zQ0
namespace Go.Proofs.Ytibdeohiimjocaa.Pure
open Go.RowKit Go.Proofs.Ytibdeohiimjocaa.C8 Go.Proofs.Ytibdeohiimjocaa.H Go.Proofs.YtibdeohiimjocaaW.PrintWords Go.Proofs.YtibdeohiimjocaaW.PrintLast Go.Proofs.YtibdeohiimjocaaW.PrintMore
set_option linter.unusedVariables false
set_option linter.unusedSimpArgs false
def cat {α : Type} (f : Int → List α) : Nat → Int → List α
  | 0, _ => []
  | n + 1, y => f y ++ cat f n (y + 1)
theorem mem_cat {α : Type} (f : Int → List α) (e : α) : ∀ (n : Nat) (y : Int), e ∈ cat f n y ↔ ∃ z, y ≤ z ∧ z < y + n ∧ e ∈ f z := by
  intro n
  induction n with
  | zero => intro y; simp only [cat, List.not_mem_nil, false_iff]; rintro ⟨z, h1, h2, _⟩; omega
  | succ n ih =>
    intro y
    simp only [cat, List.mem_append, ih]
    constructor
    · rintro (h | ⟨z, h1, h2, h3⟩)
      · exact ⟨y, by omega, by omega, h⟩
      · exact ⟨z, by omega, by omega, h3⟩
    · rintro ⟨z, h1, h2, h3⟩
      by_cases e : z = y
      · subst e; exact .inl h3
      · exact .inr ⟨z, by omega, by omega, h3⟩
theorem cat_len {α : Type} (f : Int → List α) (B : Nat) (hf : ∀ y, (f y).length ≤ B) : ∀ (n : Nat) (y : Int), (cat f n y).length ≤ B * n := by
  intro n
  induction n with
  | zero => intro y; simp [cat]
  | succ n ih =>
    intro y
    have h1 := hf y
    have h2 := ih (y + 1)
    simp only [cat, List.length_append, Nat.mul_succ]
    omega
theorem gYs_cat (G C a b t x : Int) : ∀ n y, gYs G C a b t x n y = cat (gEdge G C a b t x) n y := by
  intro n
  induction n with
  | zero => intro y; rfl
  | succ n ih => intro y; rw [gYs, cat, ih]
theorem gXs_cat (G C S a b t : Int) : ∀ n x, gXs G C S a b t n x = cat (fun x => cat (gEdge G C a b t x) (S + 1 - x).toNat 0) n x := by
  intro n
  induction n with
  | zero => intro x; rfl
  | succ n ih => intro x; rw [gXs, cat, ih, gYs_cat]
theorem bf_app (b : Int) : ∀ (L1 L2 far q : List Int), bfRelax b (L1 ++ L2) far q = bfRelax b L2 (bfRelax b L1 far q).1 (bfRelax b L1 far q).2 := by
  intro L1
  induction L1 with
  | nil => intro L2 far q; rfl
  | cons x L1 ih =>
    intro L2 far q
    simp only [List.cons_append, bfRelax]
    split <;> exact ih _ _ _
theorem bf_len (b : Int) : ∀ (L far q : List Int), (bfRelax b L far q).1.length = far.length ∧ (bfRelax b L far q).2.length ≤ q.length + L.length := by
  intro L
  induction L with
  | nil => intro far q; simp [bfRelax]
  | cons x L ih =>
    intro far q
    simp only [bfRelax]
    split
    · have := ih (far.set x.toNat (b + 1)) (q ++ [x])
      simp only [List.length_set, List.length_append, List.length_cons, List.length_nil] at this ⊢
      omega
    · have := ih far q
      simp only [List.length_cons]
      omega
theorem bf_keep (b B : Int) (n : Nat) (hb : b + 1 ≤ B) : ∀ (L far q : List Int), far.length = n → (∀ v ∈ L, 0 ≤ v ∧ v < (n : Int)) → (∀ v, 0 ≤ v → v < (n : Int) → rd far v ≤ B) →
    (∀ v, 0 ≤ v → v < (n : Int) → rd (bfRelax b L far q).1 v ≤ B) ∧ ∀ v, 0 ≤ v → v < (n : Int) → 0 ≤ rd far v → rd (bfRelax b L far q).1 v = rd far v := by
  intro L
  induction L with
  | nil => intro far q _ _ h; exact ⟨h, fun _ _ _ _ => rfl⟩
  | cons x L ih =>
    intro far q hl hL h
    obtain ⟨x0, x1⟩ := hL x (by simp)
    simp only [bfRelax]
    split
    · rename_i hx
      have hs := fun v (hv : 0 ≤ v) => rd_set far x v (b + 1) x0 (by omega) hv
      obtain ⟨h1, h2⟩ := ih (far.set x.toNat (b + 1)) (q ++ [x]) (by simpa using hl) (fun v hv => hL v (by simp [hv])) (fun v v0 v1 => by
        rw [hs v v0]
        split
        · exact hb
        · exact h v v0 v1)
      refine ⟨h1, fun v v0 v1 hv => ?_⟩
      have hne : v ≠ x := by rintro rfl; omega
      rw [h2 v v0 v1 (by rw [hs v v0, if_neg hne]; exact hv), hs v v0, if_neg hne]
    · exact ih far q hl (fun v hv => hL v (by simp [hv])) h
theorem way_rel {E E' : Int → Int → Nat → Prop} {S S' : Int → Prop} (R : Int → Int → Prop) (hs : ∀ s, S s → ∃ s', S' s' ∧ R s s') (he : ∀ u u' v c, R u u' → E u v c → ∃ v', E' u' v' c ∧ R v v') {v : Int} {n : Nat} (h : H.Way E S v n) : ∃ v', R v v' ∧ H.Way E' S' v' n := by
  induction h with
  | here h => obtain ⟨s', h1, h2⟩ := hs _ h; exact ⟨s', h2, H.Way.here h1⟩
  | on hu h ih =>
    obtain ⟨u', h1, h2⟩ := ih
    obtain ⟨v', h3, h4⟩ := he _ _ _ _ h1 h
    exact ⟨v', h4, H.Way.on h2 h3⟩
def vld (G C a b t : Int) : Prop := 0 ≤ a ∧ a ≤ G ∧ 0 ≤ b ∧ b ≤ C ∧ (t = 0 ∨ t = 1)
def spo (C a b t : Int) : Int := (a * (C + 1) + b) * 2 + t
def cod (a b t : Int) : Int := 2 * (a * 9 + b) + t
def mvs (G C S a b t c d : Int) : Prop := ∃ x y : Int, 0 ≤ x ∧ 0 ≤ y ∧ x + y ≤ S ∧ gOk G C (gC t a x) (gC t b y) x y = true ∧ c = gC t a x ∧ d = gC t b y
def EdgeS (G C S : Int) (u v : Int) (n : Nat) : Prop := n = 1 ∧ ∃ a b t c d, vld G C a b t ∧ u = spo C a b t ∧ mvs G C S a b t c d ∧ v = spo C c d (1 - t)
theorem mvs_vld {G C S a b t c d : Int} (h : mvs G C S a b t c d) (ht : t = 0 ∨ t = 1) : vld G C c d (1 - t) := by
  obtain ⟨x, y, _, _, _, h, rfl, rfl⟩ := h
  simp only [gOk, inI, Bool.and_eq_true, decide_eq_true_eq] at h
  exact ⟨h.2.1.1, h.2.1.2, h.2.2.1.1, h.2.2.1.2, by omega⟩
theorem spo_lt {G C a b t : Int} (hC : 0 ≤ C) (h : vld G C a b t) : 0 ≤ spo C a b t ∧ spo C a b t < (G + 1) * (C + 1) * 2 := by
  obtain ⟨h1, h2, h3, h4, h5⟩ := h
  have e1 : 0 ≤ a * (C + 1) := Int.mul_nonneg h1 (by omega)
  have e2 : a * (C + 1) ≤ G * (C + 1) := Int.mul_le_mul_of_nonneg_right h2 (by omega)
  have e3 : (G + 1) * (C + 1) = G * (C + 1) + (C + 1) := by rw [Int.add_mul, Int.one_mul]
  unfold spo
  omega
theorem spo_inj {G C a b t a' b' t' : Int} (h : vld G C a b t) (h' : vld G C a' b' t') (e : spo C a b t = spo C a' b' t') : a = a' ∧ b = b' ∧ t = t' := by
  obtain ⟨h1, h2, h3, h4, h5⟩ := h
  obtain ⟨g1, g2, g3, g4, g5⟩ := h'
  unfold spo at e
  have e1 : a * (C + 1) + b = a' * (C + 1) + b' := by omega
  have et : t = t' := by omega
  have key : ∀ p q r s : Int, p < q → 0 ≤ s → r ≤ C → p * (C + 1) + r = q * (C + 1) + s → False := fun p q r s hpq hs hr he => by
    have : (p + 1) * (C + 1) ≤ q * (C + 1) := Int.mul_le_mul_of_nonneg_right (by omega) (by omega)
    rw [Int.add_mul, Int.one_mul] at this
    omega
  by_cases ha : a = a'
  · subst ha
    exact ⟨rfl, by omega, et⟩
  · exfalso
    by_cases hl : a < a'
    · exact key a a' b b' hl g3 h4 e1
    · exact key a' a b' b (by omega) h3 g4 e1.symm
theorem spo_dec {C a b t : Int} (hC : 0 ≤ C ∧ C ≤ 8) (ha : 0 ≤ a ∧ a ≤ 8) (hb : 0 ≤ b ∧ b ≤ C) (ht : t = 0 ∨ t = 1) :
    Int.tmod (spo C a b t) 2 = t ∧ wrap64 (Int.tdiv (wrap64 (Int.tdiv (spo C a b t) 2)) (wrap64 (C + 1))) = a ∧ Int.tmod (wrap64 (Int.tdiv (spo C a b t) 2)) (wrap64 (C + 1)) = b := by
  have e1 : 0 ≤ a * (C + 1) := Int.mul_nonneg ha.1 (by omega)
  have e2 : a * (C + 1) ≤ 8 * (C + 1) := Int.mul_le_mul_of_nonneg_right ha.2 (by omega)
  have e0 : 0 ≤ spo C a b t := by unfold spo; omega
  have e3 : Int.tdiv (spo C a b t) 2 = b + a * (C + 1) := by
    rw [Int.tdiv_eq_ediv_of_nonneg e0]
    unfold spo
    omega
  rw [e3, wr_id (a := C + 1) (by omega) (by omega), wr_id (a := b + a * (C + 1)) (by omega) (by omega), Int.tdiv_eq_ediv_of_nonneg (by omega), Int.tmod_eq_emod_of_nonneg e0, Int.tmod_eq_emod_of_nonneg (by omega), Int.add_mul_ediv_right _ _ (by omega), Int.add_mul_emod_self_right, Int.ediv_eq_zero_of_lt hb.1 (by omega), Int.emod_eq_of_lt hb.1 (by omega), wr_id (by omega) (by omega)]
  refine ⟨?_, by omega, rfl⟩
  unfold spo
  omega
theorem spo_of {G C u : Int} (hG : 0 ≤ G) (hC : 0 ≤ C) (h0 : 0 ≤ u) (h1 : u < (G + 1) * (C + 1) * 2) : ∃ a b t, vld G C a b t ∧ u = spo C a b t := by
  have hm : 0 < C + 1 := by omega
  refine ⟨u / 2 / (C + 1), u / 2 % (C + 1), u % 2, ⟨Int.ediv_nonneg (by omega) (by omega), ?_, Int.emod_nonneg _ (by omega), ?_, by omega⟩, ?_⟩
  · have := Int.ediv_lt_of_lt_mul hm (show u / 2 < (G + 1) * (C + 1) by omega)
    omega
  · have := Int.emod_lt_of_pos (u / 2) hm
    omega
  · have := Int.mul_ediv_add_emod (u / 2) (C + 1)
    unfold spo
    rw [Int.mul_comm (u / 2 / (C + 1)) (C + 1)]
    omega
def sEdge (G C a b t x y : Int) : List Int := if gOk G C (gC t a x) (gC t b y) x y = true then [spo C (gC t a x) (gC t b y) (1 - t)] else []
def sAll (G C S a b t : Int) : List Int := cat (fun x => cat (sEdge G C a b t x) (S + 1 - x).toNat 0) (S + 1).toNat 0
theorem sAll_mem {G C S a b t : Int} (hS : 0 ≤ S) (v : Int) : v ∈ sAll G C S a b t ↔ ∃ c d, mvs G C S a b t c d ∧ v = spo C c d (1 - t) := by
  unfold sAll
  simp only [mem_cat]
  constructor
  · rintro ⟨x, hx0, hx1, y, hy0, hy1, hv⟩
    unfold sEdge at hv
    split at hv
    · rename_i h
      exact ⟨_, _, ⟨x, y, hx0, hy0, by omega, h, rfl, rfl⟩, by simpa using hv⟩
    · cases hv
  · rintro ⟨c, d, ⟨x, y, hx, hy, hs, h, rfl, rfl⟩, rfl⟩
    refine ⟨x, hx, by omega, y, hy, by omega, ?_⟩
    unfold sEdge
    rw [if_pos h]
    simp
theorem EdgeS_iff {G C S a b t : Int} (hS : 0 ≤ S) (h : vld G C a b t) (v : Int) (n : Nat) : EdgeS G C S (spo C a b t) v n ↔ n = 1 ∧ v ∈ sAll G C S a b t := by
  rw [sAll_mem hS]
  constructor
  · rintro ⟨rfl, a', b', t', c, d, h', e, hm, rfl⟩
    obtain ⟨rfl, rfl, rfl⟩ := spo_inj h h' e
    exact ⟨rfl, c, d, hm, rfl⟩
  · rintro ⟨rfl, c, d, hm, rfl⟩
    exact ⟨rfl, a, b, t, c, d, h, rfl, hm, rfl⟩
end Go.Proofs.Ytibdeohiimjocaa.Pure
