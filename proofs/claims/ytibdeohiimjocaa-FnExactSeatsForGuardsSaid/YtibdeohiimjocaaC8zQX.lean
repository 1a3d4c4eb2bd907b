import Derived.Test.YtibdeohiimjocaaC8zx0
import Derived.Test.YtibdeohiimjocaaC8zx1
import Derived.Test.YtibdeohiimjocaaC8zx3
import Derived.Test.YtibdeohiimjocaaC8zx5
import Derived.Test.YtibdeohiimjocaaC8zH0
import Derived.Test.YtibdeohiimjocaaC8zH1
import Derived.Test.YtibdeohiimjocaaC8zQ0
import Derived.Test.YtibdeohiimjocaaC8zQV
import Derived.Test.YtibdeohiimjocaaC8zQW
namespace Go.Proofs.Ytibdeohiimjocaa.Pure
open Go.RowKit Go.Proofs.Ytibdeohiimjocaa.C8 Go.Proofs.Ytibdeohiimjocaa.H Go.Proofs.YtibdeohiimjocaaW.PrintWords Go.Proofs.YtibdeohiimjocaaW.PrintLast Go.Proofs.YtibdeohiimjocaaW.PrintMore
set_option linter.unusedVariables false
set_option linter.unusedSimpArgs false
theorem cat_len2 {α : Type} (f : Int → List α) (B : Nat) : ∀ (n : Nat) (y : Int), (∀ z, y ≤ z → (f z).length ≤ B) → (cat f n y).length ≤ B * n := by
  intro n
  induction n with
  | zero => intro y _; simp [cat]
  | succ n ih =>
    intro y hf
    have h1 := hf y (Int.le_refl _)
    have h2 := ih (y + 1) (fun z hz => hf z (by omega))
    simp only [cat, List.length_append, Nat.mul_succ]
    omega
section
variable {G C S : Int}
theorem gOut_cod (S : Int) {a b t : Int} (hG : G ≤ 8) (hC : C ≤ 8) (h : vld G C a b t) : gOut G C S (cod a b t) = some (cat (fun x => cat (gEdge G C a b t x) (S + 1 - x).toNat 0) (S + 1).toNat 0) := by
  obtain ⟨a0, a1, b0, b1, ht⟩ := h
  have e1 : cod a b t / 2 / 9 = a := by unfold cod; omega
  have e2 : cod a b t / 2 % 9 = b := by unfold cod; omega
  have e3 : cod a b t % 2 = t := by unfold cod; omega
  unfold gOut
  rw [if_pos (by unfold cod; omega), e1, e2, e3, gXs_cat]
theorem gEdge_mem {a b t x y : Int} (e : Edg) : e ∈ gEdge G C a b t x y ↔ gOk G C (gC t a x) (gC t b y) x y = true ∧ e = (cod (gC t a x) (gC t b y) (1 - t), 1, [x, y]) := by
  unfold gEdge cod
  split
  · rename_i h
    simp only [List.mem_singleton, h, true_and]
    rw [show 2 * (gC t a x * 9 + gC t b y) + 1 - t = 2 * (gC t a x * 9 + gC t b y) + (1 - t) by omega]
  · rename_i h
    simp [h]
theorem gOut_okay (hG : 0 ≤ G ∧ G ≤ 8) (hC : 0 ≤ C ∧ C ≤ 8) (hS : 1 ≤ S ∧ S ≤ 4) : Okay (gOut G C S) 162 1 25 := by
  intro s h0 h1
  have hv : vld 8 8 (s / 2 / 9) (s / 2 % 9) (s % 2) := ⟨by omega, by omega, by omega, by omega, by omega⟩
  refine ⟨_, by unfold gOut; rw [if_pos (by omega)], ?_, ?_⟩
  · rw [gXs_cat]
    refine Nat.le_trans (cat_len2 _ 5 _ 0 (fun x hx => ?_)) (by omega)
    have := cat_len (gEdge G C (s / 2 / 9) (s / 2 % 9) (s % 2) x) 1 (fun y => by unfold gEdge; split <;> simp) (S + 1 - x).toNat 0
    omega
  · intro e he
    rw [gXs_cat, mem_cat] at he
    obtain ⟨x, hx0, hx1, he⟩ := he
    rw [mem_cat] at he
    obtain ⟨y, hy0, hy1, he⟩ := he
    obtain ⟨hok, rfl⟩ := (gEdge_mem e).1 he
    simp only [gOk, inI, Bool.and_eq_true, decide_eq_true_eq] at hok
    refine ⟨?_, ?_, Int.le_refl 1, Int.le_refl 1⟩
    · show 0 ≤ cod _ _ _
      unfold cod; omega
    · show cod _ _ _ < _
      unfold cod; omega
def rSC (G C : Int) (u u' : Int) : Prop := ∃ a b t, vld G C a b t ∧ u = spo C a b t ∧ u' = cod a b t
theorem sc_fwd (hG : 0 ≤ G ∧ G ≤ 8) (hC : 0 ≤ C ∧ C ≤ 8) (hS : 1 ≤ S ∧ S ≤ 4) : ∀ u u' v c, rSC G C u u' → EdgeS G C S u v c → ∃ v', EdgeOf (gOut G C S) 162 u' v' c ∧ rSC G C v v' := by
  rintro u u' v c ⟨a, b, t, h, rfl, rfl⟩ ⟨rfl, a2, b2, t2, c2, d2, h2, e, hm, rfl⟩
  obtain ⟨rfl, rfl, rfl⟩ := spo_inj h h2 e
  have hv2 := mvs_vld hm h.2.2.2.2
  obtain ⟨x, y, hx, hy, hxy, hok, rfl, rfl⟩ := hm
  refine ⟨cod (gC t a x) (gC t b y) (1 - t), ⟨?_, ?_, _, (cod (gC t a x) (gC t b y) (1 - t), 1, [x, y]), gOut_cod S hG.2 hC.2 h, ?_, rfl, rfl⟩, _, _, _, hv2, rfl, rfl⟩
  · obtain ⟨a0, a1, b0, b1, ht⟩ := h; unfold cod; omega
  · obtain ⟨a0, a1, b0, b1, ht⟩ := h; unfold cod; omega
  · rw [mem_cat]
    refine ⟨x, hx, by omega, ?_⟩
    rw [mem_cat]
    exact ⟨y, hy, by omega, (gEdge_mem _).2 ⟨hok, rfl⟩⟩
theorem sc_bwd (hG : 0 ≤ G ∧ G ≤ 8) (hC : 0 ≤ C ∧ C ≤ 8) (hS : 1 ≤ S ∧ S ≤ 4) : ∀ u' u v' c, rSC G C u u' → EdgeOf (gOut G C S) 162 u' v' c → ∃ v, EdgeS G C S u v c ∧ rSC G C v v' := by
  rintro u' u v' c ⟨a, b, t, h, rfl, rfl⟩ ⟨_, _, es, e, hes, he, rfl, hc⟩
  rw [gOut_cod S hG.2 hC.2 h] at hes
  obtain rfl := Option.some.inj hes
  rw [mem_cat] at he
  obtain ⟨x, hx0, hx1, he⟩ := he
  rw [mem_cat] at he
  obtain ⟨y, hy0, hy1, he⟩ := he
  obtain ⟨hok, rfl⟩ := (gEdge_mem e).1 he
  have hm : mvs G C S a b t (gC t a x) (gC t b y) := ⟨x, y, hx0, hy0, by omega, hok, rfl, rfl⟩
  have hc : c = 1 := by
    have : (1 : Int) = (c : Int) := hc
    omega
  exact ⟨spo C (gC t a x) (gC t b y) (1 - t), ⟨hc, a, b, t, _, _, h, rfl, hm, rfl⟩, _, _, _, mvs_vld hm h.2.2.2.2, rfl, rfl⟩
theorem sc_zero (hG : 0 ≤ G ∧ G ≤ 8) (hC : 0 ≤ C ∧ C ≤ 8) (hS : 1 ≤ S ∧ S ≤ 4) (n : Nat) : H.Way (EdgeS G C S) (fun v => v = spo C G C 1) 0 n ↔ WayO (gOut G C S) 162 [2 * (G * 9 + C) + 1] 0 n := by
  have hl : vld G C G C 1 := ⟨hG.1, by omega, hC.1, by omega, .inr rfl⟩
  have hz : vld G C 0 0 0 := ⟨by omega, hG.1, by omega, hC.1, .inl rfl⟩
  have e0 : spo C 0 0 0 = 0 := by unfold spo; simp
  constructor
  · intro h
    obtain ⟨v', ⟨a, b, t, hv, e, rfl⟩, hw⟩ := way_rel (E' := EdgeOf (gOut G C S) 162) (S' := fun s => s ∈ [2 * (G * 9 + C) + 1]) (rSC G C) (fun s hs => ⟨2 * (G * 9 + C) + 1, by simp, G, C, 1, hl, hs, rfl⟩) (sc_fwd hG hC hS) h
    rw [← e0] at e
    obtain ⟨rfl, rfl, rfl⟩ := spo_inj hz hv e
    exact hw
  · intro h
    obtain ⟨v', ⟨a, b, t, hv, e, e2⟩, hw⟩ := way_rel (E' := EdgeS G C S) (S' := fun v => v = spo C G C 1) (fun u' u => rSC G C u u') (fun s hs => ⟨spo C G C 1, rfl, G, C, 1, hl, rfl, by unfold cod; simpa using hs⟩) (sc_bwd hG hC hS) h
    obtain ⟨a0, a1, b0, b1, ht⟩ := hv
    have : a = 0 ∧ b = 0 ∧ t = 0 := by unfold cod at e2; omega
    obtain ⟨rfl, rfl, rfl⟩ := this
    rw [e, e0] at hw
    exact hw
theorem from_g (hG : 0 ≤ G ∧ G ≤ 8) (hC : 0 ≤ C ∧ C ≤ 8) (hS : 1 ≤ S ∧ S ≤ 4) : ∃ r, Ev (fun k => bkD (gOut G C S) k 0 (List.replicate 162 (-1)) [[2 * (G * 9 + C) + 1]]) r ∧ r.length = 162 ∧ ∀ v, 0 ≤ v → v < 162 → IsLeast (WayO (gOut G C S) 162 [2 * (G * 9 + C) + 1] v) (rd r v) := by
  obtain ⟨K, r, h1, h2, h3⟩ := from_ok (starts := [2 * (G * 9 + C) + 1]) (gOut_okay hG hC hS) (by decide) (by decide) (by simp [bkLim]) (by decide) (by simp; omega)
  refine ⟨r, ⟨K, fun k hk => ?_⟩, h2, h3⟩
  have := h1 k hk
  unfold fromF at this
  rw [if_pos (by decide)] at this
  exact this
def gSides (G C S : Int) : Bool := inI G 0 8 && (inI C 0 8 && (decide (0 < G + C) && inI S 1 4))
theorem isOk_val (G C S : Int) : impl_guarded_isOk.f G C S = some (gSides G C S) := by
  unfold impl_guarded_isOk.f gSides
  rw [in_val, Option.bind_some]
  cases h1 : inI G 0 8 with
  | false => simp
  | true =>
    rw [if_pos rfl, in_val, Option.bind_some]
    cases h2 : inI C 0 8 with
    | false => simp
    | true =>
      rw [if_pos rfl]
      simp only [inI, Bool.and_eq_true, decide_eq_true_eq] at h1 h2
      rw [wr_id (by omega) (by omega)]
      by_cases h3 : 0 < G + C
      · rw [if_pos h3, in_val, Option.bind_some, decide_eq_true h3]; simp
      · rw [if_neg h3, decide_eq_false h3]; simp
theorem cuSides_val (G C S : Int) : spec_cuSides.f G C S = some (gSides G C S) := by
  unfold spec_cuSides.f gSides
  rw [l1In_val, Option.bind_some]
  cases h1 : inI G 0 8 with
  | false => simp
  | true =>
    rw [if_pos rfl, l1In_val, Option.bind_some]
    cases h2 : inI C 0 8 with
    | false => simp
    | true =>
      rw [if_pos rfl]
      simp only [inI, Bool.and_eq_true, decide_eq_true_eq] at h1 h2
      rw [wr_id (by omega) (by omega)]
      by_cases h3 : 0 < G + C
      · rw [if_pos h3, l1In_val, Option.bind_some, decide_eq_true h3]; simp
      · rw [if_neg h3, decide_eq_false h3]; simp
theorem gSides_b (h : gSides G C S = true) : (0 ≤ G ∧ G ≤ 8) ∧ (0 ≤ C ∧ C ≤ 8) ∧ (1 ≤ S ∧ S ≤ 4) := by
  simp only [gSides, inI, Bool.and_eq_true, decide_eq_true_eq] at h
  omega
theorem guards_all (G C S : Int) : ∃ (d : List Int) (ok : Bool) (m : Int), Ev (fun k => impl_guarded_costs.f k G C S) (d, ok) ∧ (ok = true → rd d 0 = m) ∧ Ev (fun k => spec_FewestForGuards.f k G C S) (if ok = true then (m, true) else (0, false)) := by
  unfold impl_guarded_costs.f spec_FewestForGuards.f
  rw [isOk_val, cuSides_val]
  simp only [Option.bind_some]
  cases hs : gSides G C S with
  | false =>
    refine ⟨[], false, 0, Ev.now _, (fun h => by cases h), ?_⟩
    simp only [Bool.false_eq_true, if_false]
    exact Ev.step (f := fun _ => some (0, false)) (fun k => by rw [spec_FewestForGuards.j0]; rfl) (Ev.now _)
  | true =>
    obtain ⟨hG, hC, hS⟩ := gSides_b hs
    rw [bothFine_val G C S 0 0 (by omega) (by omega), cuHeld_val]
    simp only [if_true, Option.bind_some, show fineB 0 0 = true from rfl, Bool.true_and, Int.sub_zero]
    cases hf : fineB G C with
    | false =>
      refine ⟨[], false, 0, Ev.now _, (fun h => by cases h), ?_⟩
      simp only [Bool.false_eq_true, if_false]
      exact Ev.step (f := fun _ => some (0, false)) (fun k => by rw [spec_FewestForGuards.j0]; rfl) (Ev.now _)
    | true =>
      obtain ⟨far, f1, f2, f3⟩ := home_ok hG hC hS
      obtain ⟨r, r1, r2, r3⟩ := from_g hG hC hS
      have hpos : 0 < (far.length : Int) := by
        have : 0 < (G + 1) * (C + 1) := Int.mul_pos (by omega) (by omega)
        omega
      have heq : rd far 0 = rd r 0 := IsLeast.uniq ((f3 0 (by omega) hpos).iff (sc_zero hG hC hS)) (r3 0 (by omega) (by omega))
      refine ⟨r, decide (0 ≤ rd r 0), rd r 0, ?_, fun _ => rfl, ?_⟩
      · simp only [if_true]
        refine Ev.bind r1 ?_
        simp only [r2, if_true]
        exact Ev.now _
      · refine Ev.step (fun k => spec_FewestForGuards.j0.eq_2 ..) ?_
        simp only [Bool.not_true, Bool.false_eq_true, if_false]
        refine Ev.bind f1 ?_
        simp only [if_pos hpos, heq]
        by_cases hz : rd r 0 < 0
        · simp only [if_pos hz, decide_eq_false (show ¬ 0 ≤ rd r 0 by omega), Bool.false_eq_true, if_false]
          exact Ev.now _
        · simp only [if_neg hz, decide_eq_true (show 0 ≤ rd r 0 by omega), if_true]
          exact Ev.now _
end
end Go.Proofs.Ytibdeohiimjocaa.Pure
