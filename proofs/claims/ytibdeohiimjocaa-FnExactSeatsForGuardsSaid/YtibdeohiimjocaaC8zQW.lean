import Derived.Test.YtibdeohiimjocaaC8zx0
import Derived.Test.YtibdeohiimjocaaC8zx1
import Derived.Test.YtibdeohiimjocaaC8zx2
import Derived.Test.YtibdeohiimjocaaC8zx5
import Derived.Test.YtibdeohiimjocaaC8zH0
import Derived.Test.YtibdeohiimjocaaC8zH1
import Derived.Test.YtibdeohiimjocaaC8zQ0
import Derived.Test.YtibdeohiimjocaaC8zQV
namespace Go.Proofs.Ytibdeohiimjocaa.Pure
open Go.RowKit Go.Proofs.Ytibdeohiimjocaa.C8 Go.Proofs.Ytibdeohiimjocaa.H Go.Proofs.YtibdeohiimjocaaW.PrintWords Go.Proofs.YtibdeohiimjocaaW.PrintLast Go.Proofs.YtibdeohiimjocaaW.PrintMore
set_option linter.unusedVariables false
set_option linter.unusedSimpArgs false
theorem l1In_val (x lo hi : Int) : spec_l1In.f x lo hi = some (inI x lo hi) := by
  unfold spec_l1In.f inI
  by_cases h : x ≥ lo
  · rw [if_pos h, decide_eq_true (show lo ≤ x from h)]; rfl
  · rw [if_neg h, decide_eq_false (show ¬ lo ≤ x from h)]; rfl
theorem cuHeld_val (x y : Int) : spec_cuHeld.f x y = some (fineB x y) := by
  unfold spec_cuHeld.f fineB
  by_cases h : x = 0
  · rw [if_pos h, decide_eq_true h]; rfl
  · rw [if_neg h, decide_eq_false h]; rfl
theorem cuGuarded_val (G C c d : Int) (hc : -100 ≤ G - c ∧ G - c ≤ 100) (hd : -100 ≤ C - d ∧ C - d ≤ 100) : spec_cuGuarded.f G C c d = some (fineB c d && fineB (G - c) (C - d)) := by
  unfold spec_cuGuarded.f
  rw [cuHeld_val, Option.bind_some, wr_id (by omega) (by omega), wr_id (by omega) (by omega), cuHeld_val, Option.bind_some]
  cases fineB c d <;> simp
theorem cuSpot_val {C c d t : Int} (hC : 0 ≤ C ∧ C ≤ 8) (hc : 0 ≤ c ∧ c ≤ 8) (hd : 0 ≤ d ∧ d ≤ 8) (ht : t = 0 ∨ t = 1) : spec_cuSpot.f C c d (wrap64 (1 - t)) = some (spo C c d (1 - t)) := by
  have e1 : 0 ≤ c * (C + 1) := Int.mul_nonneg hc.1 (by omega)
  have e2 : c * (C + 1) ≤ 8 * (C + 1) := Int.mul_le_mul_of_nonneg_right hc.2 (by omega)
  unfold spec_cuSpot.f spo
  rw [wr_id (a := C + 1) (by omega) (by omega), wr_id (a := c * (C + 1)) (by omega) (by omega), wr_id (a := c * (C + 1) + d) (by omega) (by omega), wr_id (a := (c * (C + 1) + d) * 2) (by omega) (by omega), wr_id (a := 1 - t) (by omega) (by omega), wr_id (by omega) (by omega)]
section
variable {G C S a b t : Int}
theorem home_j4 (k : Nat) (far q : List Int) (idx u x y c d : Int) (hc : -4 ≤ c ∧ c ≤ 12) (hd : -4 ≤ d ∧ d ≤ 12) (hG : 0 ≤ G ∧ G ≤ 8) (hC : 0 ≤ C ∧ C ≤ 8) (hx : 0 ≤ x ∧ x ≤ 4) (hy : 0 ≤ y ∧ y ≤ 4) :
    spec_cuHome.j4 (k + 1) G C S far q idx u t a b x y c d = spec_cuHome.j5 k G C S far q idx u t a b x y c d (!gOk G C c d x y) := by
  rw [spec_cuHome.j4, wr_id (by omega) (by omega)]
  unfold gOk
  by_cases h0 : x + y = 0
  · rw [if_pos h0, decide_eq_false (show ¬ 0 < x + y by omega)]; rfl
  · rw [if_neg h0, decide_eq_true (show 0 < x + y by omega), cuHeld_val, Option.bind_some, Bool.true_and]
    cases fineB x y with
    | false => simp
    | true =>
      rw [if_pos rfl, l1In_val, Option.bind_some]
      cases inI c 0 G with
      | false => simp
      | true =>
        rw [if_pos rfl, l1In_val, Option.bind_some]
        cases inI d 0 C with
        | false => simp
        | true =>
          rw [if_pos rfl, cuGuarded_val G C c d (by omega) (by omega), Option.bind_some]
          simp
theorem home_l3 (hG : 0 ≤ G ∧ G ≤ 8) (hC : 0 ≤ C ∧ C ≤ 8) (hS : 1 ≤ S ∧ S ≤ 4) (hv : vld G C a b t) (N : Nat) (hN : (N : Int) = (G + 1) * (C + 1) * 2) (bb : Int) (hb : 0 ≤ bb ∧ bb ≤ 1000) (x : Int) (hx : 0 ≤ x ∧ x ≤ S) (idx : Int) (R : List Int) :
    ∀ (n : Nat) (y : Int) (far q : List Int), 0 ≤ y → y + n = S + 1 - x → far.length = N → rd far (spo C a b t) = bb → (∀ v, 0 ≤ v → v < (N : Int) → rd far v ≤ 1001) → q.length + n ≤ 1000000 →
      Ev (fun k => spec_cuHome.l2 k G C S (bfRelax bb (cat (sEdge G C a b t x) n y) far q).1 (bfRelax bb (cat (sEdge G C a b t x) n y) far q).2 idx (spo C a b t) t a b (wrap64 (x + 1))) R →
      Ev (fun k => spec_cuHome.l3 k G C S far q idx (spo C a b t) t a b x y) R := by
  have hu := spo_lt hC.1 hv
  obtain ⟨a0, a1, b0, b1, ht⟩ := hv
  intro n
  induction n with
  | zero =>
    intro y far q hy hyn hl hr hle hq h
    refine Ev.step (fun k => spec_cuHome.l3.eq_2 ..) ?_
    rw [wr_id (a := x + y) (by omega) (by omega)]
    simp only [if_neg (show ¬ x + y ≤ S by omega)]
    exact h
  | succ n ih =>
    intro y far q hy hyn hl hr hle hq h
    have hxb : 0 ≤ x ∧ x ≤ 4 := by omega
    have hyb : 0 ≤ y ∧ y ≤ 4 := by omega
    have hc := gC_val (bt := t) (a := a) (x := x) ⟨a0, by omega⟩ hxb
    have hd := gC_val (bt := t) (a := b) (x := y) ⟨b0, by omega⟩ hyb
    refine Ev.step (fun k => spec_cuHome.l3.eq_2 ..) ?_
    rw [wr_id (a := x + y) (by omega) (by omega)]
    simp only [if_pos (show x + y ≤ S by omega)]
    have hj : Ev (fun k => spec_cuHome.j4 k G C S far q idx (spo C a b t) t a b x y (gC t a x) (gC t b y)) R := by
      refine Ev.step (fun k => home_j4 k far q idx (spo C a b t) x y _ _ hc.2.2 hd.2.2 hG hC hxb hyb) ?_
      refine Ev.step (fun k => spec_cuHome.j5.eq_2 ..) ?_
      have hw : wrap64 (y + 1) = y + 1 := wr_id (by omega) (by omega)
      simp only [cat, bf_app] at h
      cases hok : gOk G C (gC t a x) (gC t b y) x y with
      | false =>
        have he : sEdge G C a b t x y = [] := by unfold sEdge; rw [if_neg (by rw [hok]; decide)]
        rw [he] at h
        rw [hw]
        simp only [if_pos (show (!false) = true from rfl)]
        exact ih (y + 1) far q (by omega) (by omega) hl hr hle (by omega) h
      | true =>
        have he : sEdge G C a b t x y = [spo C (gC t a x) (gC t b y) (1 - t)] := by unfold sEdge; rw [if_pos hok]
        rw [he] at h
        have hv2 : vld G C (gC t a x) (gC t b y) (1 - t) := mvs_vld (S := S) ⟨x, y, hx.1, hy, by omega, hok, rfl, rfl⟩ ht
        have hv3 := spo_lt hC.1 hv2
        obtain ⟨c0, c1, d0, d1, _⟩ := hv2
        rw [cuSpot_val hC ⟨c0, by omega⟩ ⟨d0, by omega⟩ ht]
        simp only [if_neg (show ¬ (!true) = true by decide), Option.bind_some]
        generalize spo C (gC t a x) (gC t b y) (1 - t) = v at h hv3
        rw [hw]
        simp only [if_pos hv3.1, if_pos (show v < (far.length : Int) by omega)]
        simp only [bfRelax] at h
        by_cases hf : rd far v < 0
        · rw [hr, wr_id (a := bb + 1) (by omega) (by omega)]
          simp only [if_pos hf] at h ⊢
          simp only [if_pos hu.1, if_pos (show spo C a b t < (far.length : Int) by omega), if_pos (show q.length < 17592186044416 by omega)]
          refine ih (y + 1) _ _ (by omega) (by omega) (by simpa using hl) ?_ (fun w w0 w1 => ?_) (by simp; omega) h
          · rw [rd_set far v _ (bb + 1) hv3.1 (by omega) hu.1, if_neg (by intro e; rw [e] at hr; omega)]; exact hr
          · rw [rd_set far v w (bb + 1) hv3.1 (by omega) w0]
            split
            · omega
            · exact hle w w0 w1
        · simp only [if_neg hf] at h ⊢
          exact ih (y + 1) far q (by omega) (by omega) hl hr hle (by omega) h
    by_cases h0 : t = 0
    · rw [hc.1 h0, hd.1 h0]; simp only [if_pos h0]; exact hj
    · rw [hc.2.1 (by omega), hd.2.1 (by omega)]; simp only [if_neg h0]; exact hj
theorem home_l2 (hG : 0 ≤ G ∧ G ≤ 8) (hC : 0 ≤ C ∧ C ≤ 8) (hS : 1 ≤ S ∧ S ≤ 4) (hv : vld G C a b t) (N : Nat) (hN : (N : Int) = (G + 1) * (C + 1) * 2) (bb : Int) (hb : 0 ≤ bb ∧ bb ≤ 1000) (idx : Int) (R : List Int) :
    ∀ (n : Nat) (x : Int) (far q : List Int), 0 ≤ x → x + n = S + 1 → far.length = N → rd far (spo C a b t) = bb → (∀ v, 0 ≤ v → v < (N : Int) → rd far v ≤ 1001) → q.length + 5 * n ≤ 1000000 →
      Ev (fun k => spec_cuHome.l1 k G C S (bfRelax bb (cat (fun x => cat (sEdge G C a b t x) (S + 1 - x).toNat 0) n x) far q).1 (bfRelax bb (cat (fun x => cat (sEdge G C a b t x) (S + 1 - x).toNat 0) n x) far q).2 (wrap64 (idx + 1))) R →
      Ev (fun k => spec_cuHome.l2 k G C S far q idx (spo C a b t) t a b x) R := by
  have hu := spo_lt hC.1 hv
  have ht := hv.2.2.2.2
  intro n
  induction n with
  | zero =>
    intro x far q hx hxn hl hr hle hq h
    refine Ev.step (fun k => spec_cuHome.l2.eq_2 ..) ?_
    simp only [if_neg (show ¬ x ≤ S by omega)]
    exact h
  | succ n ih =>
    intro x far q hx hxn hl hr hle hq h
    refine Ev.step (fun k => spec_cuHome.l2.eq_2 ..) ?_
    simp only [if_pos (show x ≤ S by omega)]
    simp only [cat, bf_app] at h
    refine home_l3 hG hC hS hv N hN bb hb x ⟨hx, by omega⟩ idx R (S + 1 - x).toNat 0 far q (by omega) (by omega) hl hr hle (by omega) ?_
    rw [wr_id (a := x + 1) (by omega) (by omega)]
    have hin : ∀ v ∈ cat (sEdge G C a b t x) (S + 1 - x).toNat 0, 0 ≤ v ∧ v < (N : Int) := by
      intro v hv'
      rw [mem_cat] at hv'
      obtain ⟨y, hy0, hy1, hv'⟩ := hv'
      unfold sEdge at hv'
      split at hv'
      · rename_i hok
        have := spo_lt hC.1 (mvs_vld (S := S) ⟨x, y, hx, hy0, by omega, hok, rfl, rfl⟩ ht)
        have hv' : v = spo C (gC t a x) (gC t b y) (1 - t) := by simpa using hv'
        rw [hv']
        omega
      · cases hv'
    have hk := bf_keep bb 1001 N (by omega) (cat (sEdge G C a b t x) (S + 1 - x).toNat 0) far q hl hin hle
    have hl2 := bf_len bb (cat (sEdge G C a b t x) (S + 1 - x).toNat 0) far q
    have hcl := cat_len (sEdge G C a b t x) 1 (fun y => by unfold sEdge; split <;> simp) (S + 1 - x).toNat 0
    exact ih (x + 1) (bfRelax bb (cat (sEdge G C a b t x) (S + 1 - x).toNat 0) far q).1 (bfRelax bb (cat (sEdge G C a b t x) (S + 1 - x).toNat 0) far q).2 (by omega) (by omega) (by omega) (by rw [hk.2 (spo C a b t) hu.1 (by omega) (by omega)]; exact hr) hk.1 (by omega) h
theorem edgeS_bounded (hC : 0 ≤ C) (N : Nat) (hN : (N : Int) = (G + 1) * (C + 1) * 2) (s : Int) (hs : 0 ≤ s ∧ s < (N : Int)) : Bounded (EdgeS G C S) (fun v => v = s) N := by
  refine ⟨?_, fun v hv => by subst hv; exact hs⟩
  rintro u v c ⟨rfl, a, b, t, c, d, h, rfl, hm, rfl⟩
  have h1 := spo_lt hC h
  have h2 := spo_lt hC (mvs_vld hm h.2.2.2.2)
  omega
theorem home_l1 (hG : 0 ≤ G ∧ G ≤ 8) (hC : 0 ≤ C ∧ C ≤ 8) (hS : 1 ≤ S ∧ S ≤ 4) (N : Nat) (hN : (N : Int) = (G + 1) * (C + 1) * 2) (hN2 : N ≤ 162) (s : Int) (hs : 0 ≤ s ∧ s < (N : Int)) :
    ∀ (g : Nat) (far pre todo : List Int), N - pre.length ≤ g → QInv (EdgeS G C S) (fun v => v = s) N far pre todo → (∀ v, 0 ≤ v → v < (N : Int) → rd far v ≤ pre.length) →
      ∃ far', Ev (fun k => spec_cuHome.l1 k G C S far (pre ++ todo) (pre.length : Int)) far' ∧ far'.length = N ∧ ∀ v, 0 ≤ v → v < (N : Int) → IsLeast (H.Way (EdgeS G C S) (fun v => v = s) v) (rd far' v) := by
  have hB := edgeS_bounded (S := S) hC.1 N hN s hs
  intro g
  induction g with
  | zero =>
    intro far pre todo hg hI hle
    have hlen := nodup_len (n := N) hI.nodup (fun v hv => ⟨(hI.inn v hv).1, (hI.inn v hv).2.1⟩)
    have : todo = [] := by
      cases todo with
      | nil => rfl
      | cons x r => simp at hlen; omega
    subst this
    refine ⟨far, ?_, hI.len, hI.fin hB⟩
    refine Ev.step (f := fun _ => some far) (fun k => ?_) (Ev.now _)
    rw [spec_cuHome.l1, if_neg (by simp)]
  | succ g ih =>
    intro far pre todo hg hI hle
    have hlen := nodup_len (n := N) hI.nodup (fun v hv => ⟨(hI.inn v hv).1, (hI.inn v hv).2.1⟩)
    cases todo with
    | nil =>
      refine ⟨far, ?_, hI.len, hI.fin hB⟩
      refine Ev.step (f := fun _ => some far) (fun k => ?_) (Ev.now _)
      rw [spec_cuHome.l1, if_neg (by simp)]
    | cons u todo =>
      obtain ⟨u0, u1, mu, hmu, _⟩ := hI.inn u (by simp)
      obtain ⟨a, b, t, hv, rfl⟩ := spo_of hG.1 hC.1 u0 (by omega)
      simp only [List.length_append, List.length_cons] at hlen
      have hub := hle _ u0 u1
      obtain ⟨todo', e1, hI'⟩ := hI.step hB (sAll G C S a b t) (fun v c => EdgeS_iff (by omega) hv v c) (fun v hv' => by
        obtain ⟨c, d, hm, rfl⟩ := (sAll_mem (by omega) v).1 hv'
        have := spo_lt hC.1 (mvs_vld hm hv.2.2.2.2)
        omega)
      have hk := bf_keep (rd far (spo C a b t)) ((pre.length : Int) + 1) N (by omega) (sAll G C S a b t) far (pre ++ spo C a b t :: todo) hI.len (fun v hv' => by
        obtain ⟨c, d, hm, rfl⟩ := (sAll_mem (by omega) v).1 hv'
        have := spo_lt hC.1 (mvs_vld hm hv.2.2.2.2)
        omega) (fun v v0 v1 => by have := hle v v0 v1; omega)
      obtain ⟨far', h1, h2, h3⟩ := ih _ (pre ++ [spo C a b t]) todo' (by simp; omega) hI' (fun v v0 v1 => by have := hk.1 v v0 v1; simp; omega)
      refine ⟨far', ?_, h2, h3⟩
      obtain ⟨a0, a1, b0, b1, ht⟩ := hv
      obtain ⟨d1, d2, d3⟩ := spo_dec hC ⟨a0, by omega⟩ ⟨b0, b1⟩ ht
      refine Ev.step (fun k => spec_cuHome.l1.eq_2 ..) ?_
      have hrd : rd (pre ++ spo C a b t :: todo) (pre.length : Int) = spo C a b t := rd_mid pre _ todo
      rw [hrd, d1, d2, d3]
      simp only [if_pos (lt_mid pre (spo C a b t) todo), if_pos (zle pre.length), if_neg (show ¬ wrap64 (C + 1) = 0 by rw [wr_id (by omega) (by omega)]; omega)]
      refine home_l2 hG hC hS ⟨a0, a1, b0, b1, ht⟩ N hN _ ⟨by omega, by omega⟩ (pre.length : Int) far' (S + 1).toNat 0 far _ (by omega) (by omega) hI.len rfl (fun v v0 v1 => by have := hle v v0 v1; omega) (by simp; omega) ?_
      rw [wr_id (a := (pre.length : Int) + 1) (by omega) (by omega)]
      have e2 : (pre.length : Int) + 1 = ((pre ++ [spo C a b t]).length : Int) := by simp
      rw [e2]
      unfold sAll at e1
      rw [e1]
      exact h1
theorem home_fill (x0 x1 x2 : Int) (R : List Int) : ∀ (n : Nat) (pre : List Int), (∀ v ∈ pre, v = -1) → pre.length + n ≤ 1000 → Ev (fun k => (spec_cuSpot.f x1 x0 x1 1).bind fun t110 => (if 0 ≤ t110 then (if t110 < ((List.replicate (pre.length + n) (-1 : Int)).length : Int) then (spec_cuHome.l1 k x0 x1 x2 ((List.replicate (pre.length + n) (-1 : Int)).set (t110 : Int).toNat 0) (([t110] : List Int)) 0) else (none)) else (none))) R →
    Ev (fun k => spec_cuHome.l0 k x0 x1 x2 (pre ++ List.replicate n 0) ((pre.length + n : Nat) : Int) (pre.length : Int)) R := by
  intro n
  induction n with
  | zero =>
    intro pre hp hl h
    have e : pre = List.replicate (pre.length + 0) (-1) := List.eq_replicate_iff.2 ⟨by simp, hp⟩
    refine Ev.step (fun k => spec_cuHome.l0.eq_2 ..) ?_
    rw [show pre ++ List.replicate 0 0 = pre by simp]
    rw [← e] at h
    simp only [if_neg (show ¬ (pre.length : Int) < ((pre.length + 0 : Nat) : Int) by omega)]
    exact h
  | succ n ih =>
    intro pre hp hl h
    refine Ev.step (fun k => spec_cuHome.l0.eq_2 ..) ?_
    rw [List.replicate_succ, set_mid, wr_id (a := (pre.length : Int) + 1) (by omega) (by omega)]
    simp only [if_pos (show (pre.length : Int) < ((pre.length + (n + 1) : Nat) : Int) by omega), if_pos (zle pre.length), if_pos (lt_mid pre (0 : Int) (List.replicate n 0))]
    rw [app_mid]
    have := ih (pre ++ [-1]) (fun v hv => by
      rcases List.mem_append.1 hv with hv | hv
      · exact hp v hv
      · simpa using hv) (by simp; omega) (by rw [show (pre ++ [(-1 : Int)]).length + n = pre.length + (n + 1) by simp; omega]; exact h)
    rw [show ((pre ++ [(-1 : Int)]).length + n : Nat) = pre.length + (n + 1) by simp; omega, show (((pre ++ [(-1 : Int)]).length : Nat) : Int) = (pre.length : Int) + 1 by simp] at this
    exact this
theorem home_ok (hG : 0 ≤ G ∧ G ≤ 8) (hC : 0 ≤ C ∧ C ≤ 8) (hS : 1 ≤ S ∧ S ≤ 4) : ∃ far, Ev (fun k => spec_cuHome.f k G C S) far ∧ (far.length : Int) = (G + 1) * (C + 1) * 2 ∧ ∀ v, 0 ≤ v → v < (far.length : Int) → IsLeast (H.Way (EdgeS G C S) (fun v => v = spo C G C 1) v) (rd far v) := by
  have e1 : 0 < (G + 1) * (C + 1) := Int.mul_pos (by omega) (by omega)
  have e2 : (G + 1) * (C + 1) ≤ 9 * (C + 1) := Int.mul_le_mul_of_nonneg_right (by omega) (by omega)
  obtain ⟨N, hN⟩ : ∃ N : Nat, (N : Int) = (G + 1) * (C + 1) * 2 := ⟨((G + 1) * (C + 1) * 2).toNat, by omega⟩
  have hN2 : N ≤ 162 := by omega
  have hs := spo_lt (G := G) (a := G) (b := C) (t := 1) hC.1 ⟨hG.1, by omega, hC.1, by omega, .inr rfl⟩
  rw [← hN] at hs
  have hB := edgeS_bounded (S := S) hC.1 N hN _ hs
  have hI := QInv.init hB (spo C G C 1) (fun x => Iff.rfl)
  obtain ⟨far, h1, h2, h3⟩ := home_l1 hG hC hS N hN hN2 (spo C G C 1) hs N _ [] [spo C G C 1] (by simp) hI (fun v v0 v1 => by
    rw [rd_set _ _ v 0 hs.1 (by simpa using hs.2) v0]
    split
    · simp
    · rw [rd_rep N (-1) v v0 v1]; simp)
  refine ⟨far, ?_, by rw [h2]; exact hN, by rw [h2]; exact h3⟩
  unfold spec_cuHome.f
  rw [wr_id (a := G + 1) (by omega) (by omega), wr_id (a := C + 1) (by omega) (by omega), wr_id (a := (G + 1) * (C + 1)) (by omega) (by omega), wr_id (by omega) (by omega), ← hN, Int.toNat_natCast]
  simp only [if_pos (zle N), if_pos (show N ≤ 35184372088832 by omega), Option.bind_some, List.length_replicate]
  have hf := home_fill G C S far N [] (by simp) (by simp; omega) (by
    have hsp : spec_cuSpot.f C G C 1 = some (spo C G C 1) := by
      have := cuSpot_val (c := G) (d := C) (t := 0) hC hG hC (.inl rfl)
      rw [wr_id (by omega) (by omega)] at this
      exact this
    simp only [hsp, Option.bind_some, List.length_nil, Nat.zero_add, List.length_replicate]
    simp only [if_pos hs.1, if_pos hs.2]
    exact h1)
  simpa using hf
end
end Go.Proofs.Ytibdeohiimjocaa.Pure
