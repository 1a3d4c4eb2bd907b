import Derived.Test.YtamljjfhkolflaaC6zx0
import Derived.Test.YtamljjfhkolflaaC6zx2
import Derived.Test.YtamljjfhkolflaaC6zx3
import Derived.Test.YtamljjfhkolflaaC6zx4
import Derived.Test.YtamljjfhkolflaaC6zx5
import Derived.Test.YtamljjfhkolflaaC6zx8
import Derived.Test.YtamljjfhkolflaaC6zH0
import Derived.Test.YtamljjfhkolflaaC6zH1
import Derived.Test.YtamljjfhkolflaaC6zQ0
import Derived.Test.YtamljjfhkolflaaC6zQ1
import Derived.Test.YtamljjfhkolflaaC6zQ2
import Derived.Test.YtamljjfhkolflaaC6zQ3
import Derived.Test.YtamljjfhkolflaaC6zQ4
import Derived.Test.YtamljjfhkolflaaC6zQ5
import Derived.Test.YtamljjfhkolflaaC6zQS
import Derived.Test.YtamljjfhkolflaaC6zQG
import Derived.Test.YtamljjfhkolflaaC6zQN
import Derived.Test.YtamljjfhkolflaaC6zQP
import Derived.Test.YtamljjfhkolflaaC6zQT
namespace Go.Proofs.Ytamljjfhkolflaa.Pure
open Go.RowKit Go.Proofs.Ytamljjfhkolflaa.C6 Go.Proofs.Ytamljjfhkolflaa.H Go.Proofs.YtamljjfhkolflaaW.PrintWords Go.Proofs.YtamljjfhkolflaaW.PrintLast Go.Proofs.YtamljjfhkolflaaW.PrintMore
set_option linter.unusedVariables false
set_option linter.unusedSimpArgs false
theorem DInv_congr {E : Int → Int → Nat → Prop} {S : Int → Prop} {n : Nat} {far : List Int} {dn dn' : Int → Bool} (h : DInv E S n far dn) (hb : Bounded E S n) (he : ∀ v, 0 ≤ v → v < (n : Int) → dn v = dn' v) : DInv E S n far dn' :=
  ⟨h.len, h.range, fun v h0 h1 hd => h.pos v h0 h1 ((he v h0 h1).trans hd), fun v h0 h1 hd => h.least v h0 h1 ((he v h0 h1).trans hd), fun v h0 h1 hd u u0 u1 hu => h.order v h0 h1 ((he v h0 h1).trans hd) u u0 u1 ((he u u0 u1).trans hu), fun u h0 h1 hd => h.edges u h0 h1 ((he u h0 h1).trans hd), h.start⟩
def selP (far : List Int) (dl : List Bool) : Nat → Int → Int → Int
  | 0, _, a => a
  | r + 1, i, a => selP far dl r (i + 1) (if rdOf false dl i = true then a else if 0 ≤ rd far i then (if a < 0 then i else if rd far i < rd far a then i else a) else a)
theorem selP_ok (far : List Int) (dl : List Bool) (N : Int) : ∀ (r : Nat) (i a : Int), 0 ≤ i → i + r = N → (a = -1 ∨ 0 ≤ a ∧ a < N ∧ rdOf false dl a = false ∧ 0 ≤ rd far a) → (∀ u, 0 ≤ u → u < i → rdOf false dl u = false → 0 ≤ rd far u → 0 ≤ a ∧ rd far a ≤ rd far u) →
    (selP far dl r i a = -1 ∨ 0 ≤ selP far dl r i a ∧ selP far dl r i a < N ∧ rdOf false dl (selP far dl r i a) = false ∧ 0 ≤ rd far (selP far dl r i a)) ∧ ∀ u, 0 ≤ u → u < N → rdOf false dl u = false → 0 ≤ rd far u → 0 ≤ selP far dl r i a ∧ rd far (selP far dl r i a) ≤ rd far u := by
  intro r
  induction r with
  | zero => intro i a _ hi ha h; exact ⟨ha, fun u u0 u1 => h u u0 (by omega)⟩
  | succ r ih =>
    intro i a h0 hi ha h
    simp only [selP]
    apply ih (i + 1) _ (by omega) (by omega)
    · cases hd : rdOf false dl i with
      | true => simpa using ha
      | false =>
        simp only [Bool.false_eq_true, if_false]
        by_cases hf : 0 ≤ rd far i
        · rw [if_pos hf]
          split
          · exact .inr ⟨h0, by omega, hd, hf⟩
          · split
            · exact .inr ⟨h0, by omega, hd, hf⟩
            · exact ha
        · rw [if_neg hf]; exact ha
    · intro u u0 u1 hu hfu
      by_cases e : u = i
      · subst e
        rw [if_neg (by rw [hu]; decide), if_pos hfu]
        split
        · exact ⟨u0, Int.le_refl _⟩
        · split
          · exact ⟨u0, Int.le_refl _⟩
          · exact ⟨by omega, by omega⟩
      · have hh := h u u0 (by omega) hu hfu
        cases hd : rdOf false dl i with
        | true => simpa using hh
        | false =>
          simp only [Bool.false_eq_true, if_false]
          split
          · split
            · omega
            · split
              · exact ⟨h0, by omega⟩
              · exact hh
          · exact hh
theorem dk_keep (b : Int) (n : Nat) (B : Int) (a : Int) (a0 : 0 ≤ a) (a1 : a < (n : Int)) (hb0 : 0 ≤ b) : ∀ (L : List (Int × Int)) (far : List Int), far.length = n → (∀ e ∈ L, 0 ≤ e.1 ∧ e.1 < (n : Int) ∧ 1 ≤ e.2 ∧ b + e.2 ≤ B) → rd far a = b → (∀ v, 0 ≤ v → v < (n : Int) → rd far v ≤ B) →
    (dkRelax b L far).length = n ∧ rd (dkRelax b L far) a = b ∧ ∀ v, 0 ≤ v → v < (n : Int) → rd (dkRelax b L far) v ≤ B := by
  intro L
  induction L with
  | nil => intro far hl _ ha h; exact ⟨hl, ha, h⟩
  | cons e L ih =>
    intro far hl hL ha h
    obtain ⟨e0, e1, e2, e3⟩ := hL e (by simp)
    have hs := fun v (hv : 0 ≤ v) => rd_set far e.1 v (b + e.2) e0 (by omega) hv
    simp only [dkRelax]
    split
    · rename_i hc
      refine ih _ (by simpa using hl) (fun x hx => hL x (by simp [hx])) ?_ (fun v v0 v1 => ?_)
      · rw [hs a a0, if_neg (by rintro rfl; omega)]; exact ha
      · rw [hs v v0]
        split
        · exact e3
        · exact h v v0 v1
    · exact ih far hl (fun x hx => hL x (by simp [hx])) ha h
theorem timeP_mxs (l : List Int) : ∀ (r : List Int) (m : Int), timeP l r m = mxs l r m := by
  intro r
  induction r with
  | nil => intro m; rfl
  | cons x r ih => intro m; simp only [timeP, mxs]; rw [ih]; congr 1; split <;> omega
section
variable {l : List Int} {m : Int}
def ndS (l : List Int) (m : Int) (ov : List Bool) (tr : Bool) : List (Int × Int) := (tripsP m ov tr).map fun t => (enS (mv (!tr) t ov) (!tr), mxs l t 0)
theorem far_l3 (h : goodP l m = true) (N : Nat) (hN : (N : Int) = 2 ^ (l.length + 1)) (a b B : Int) (a0 : 0 ≤ a) (a1 : a < (N : Int)) (hb0 : 0 ≤ b) (hB : b + 1000 ≤ B) (hB2 : B ≤ 1000000000) (dl : List Bool) (ov : List Bool) (tr : Bool) (hl : ov.length = l.length) (R : List Int) (ts : List (List Int)) (hts : ts.length ≤ 1048576) (hti : ∀ t ∈ ts, t ∈ tripsP m ov tr) :
    ∀ (r pre : List (List Int)) (far : List Int), ts = pre ++ r → far.length = N → rd far a = b → (∀ v, 0 ≤ v → v < (N : Int) → rd far v ≤ B) →
      Ev (fun k => spec_seFar.l1 k (dkRelax b (r.map fun t => (enS (mv (!tr) t ov) (!tr), mxs l t 0)) far) dl l m) R →
      Ev (fun k => spec_seFar.l3 k far dl a ts (ts.length : Int) (pre.length : Int) l m ov tr) R := by
  obtain ⟨_, hn, hx, hm⟩ := goodP_times h
  intro r
  induction r with
  | nil =>
    intro pre far e hl' ha hf hc
    subst e
    refine Ev.step (fun k => spec_seFar.l3.eq_2 ..) ?_
    simp only [if_neg (nlt_end pre)]
    exact hc
  | cons t r ih =>
    intro pre far e hl' ha hf hc
    have ht := hti t (by rw [e]; simp)
    have hi := trip_in ht
    have htl : t.length ≤ 1048576 := by have := (tripsP_mem.1 ht).2.1; omega
    have hen := en_facts hn (mv (!tr) t ov) (!tr) (by rw [mv_len]; exact hl)
    have hcb := cst_bound h true hl ht
    simp only [cstP, if_true] at hcb
    subst e
    refine Ev.step (fun k => spec_seFar.l3.eq_2 ..) ?_
    have hrd : rd_L2 (pre ++ t :: r) (pre.length : Int) = t := rdOf_mid [] pre t r
    rw [hrd, wr_mid pre t r (by omega)]
    simp only [if_pos (lt_mid pre t r), if_pos (zle pre.length), if_pos a0, if_pos (show a < (far.length : Int) by omega)]
    refine Ev.bind (paCross_ev ov tr t (by omega) htl (fun x hx => ⟨(hi x hx).1, (hi x hx).2.1⟩) (fun x hx => (hi x hx).2.2)) ?_
    dsimp only
    refine Ev.bind (seIndex_ev hn (mv (!tr) t ov) (!tr) (by rw [mv_len]; exact hl)) ?_
    have htm : Ev (fun k => spec_paTime.f k l m t) (mxs l t 0) := by
      rw [← timeP_mxs]
      exact paTime_loop l m t [] 0 (by simp; omega) (fun x hx => ⟨(hi x hx).1, by rw [← hl]; exact (hi x hx).2.1⟩)
    refine Ev.bind htm ?_
    rw [ha, wr_id (a := b + mxs l t 0) (by omega) (by omega)]
    generalize hv : enS (mv (!tr) t ov) (!tr) = v at hen hc ⊢
    simp only [if_pos hen.2.2.2.1, if_pos (show v < (far.length : Int) by omega)]
    have hs := fun u (hu : 0 ≤ u) => rd_set far v u (b + mxs l t 0) hen.2.2.2.1 (by omega) hu
    simp only [List.map_cons, hv, dkRelax] at hc
    have hset : ∀ (u : Int), 0 ≤ u → u < (N : Int) → rd (far.set v.toNat (b + mxs l t 0)) u ≤ B := fun u u0 u1 => by
      rw [hs u u0]
      split
      · omega
      · exact hf u u0 u1
    by_cases h1 : rd far v < 0
    · rw [if_pos (.inl h1)] at hc
      simp only [if_pos h1]
      rw [show ((pre ++ [t]).length : Int) = ((pre ++ [t]).length : Int) from rfl]
      refine ih (pre ++ [t]) _ (by simp) (by simpa using hl') ?_ hset hc
      rw [hs a a0, if_neg (by rintro rfl; omega)]; exact ha
    · simp only [if_neg h1]
      by_cases h2 : b + mxs l t 0 < rd far v
      · rw [if_pos (.inr h2)] at hc
        simp only [if_pos h2]
        refine ih (pre ++ [t]) _ (by simp) (by simpa using hl') ?_ hset hc
        rw [hs a a0, if_neg (by rintro rfl; omega)]; exact ha
      · rw [if_neg (by omega)] at hc
        simp only [if_neg h2]
        exact ih (pre ++ [t]) far (by simp) hl' ha hf hc
theorem far_l2 (N : Nat) (hN2 : N ≤ 1000) (far : List Int) (dl : List Bool) (hl : far.length = N) (hd : dl.length = N) (R : List Int) : ∀ (r : Nat) (i : Nat) (a : Int), i + r = N → (a = -1 ∨ 0 ≤ a ∧ a < (N : Int)) →
    Ev (fun k => if selP far dl r (i : Int) a < 0 then (some far) else (if 0 ≤ selP far dl r (i : Int) a then (if selP far dl r (i : Int) a < (dl.length : Int) then ((spec_seState.f k (selP far dl r (i : Int) a) (l.length : Int)).bind fun bt204 => ((spec_paTrips.f k l m bt204.1 bt204.2).bind fun t209 => (spec_seFar.l3 k far (dl.set (selP far dl r (i : Int) a).toNat true) (selP far dl r (i : Int) a) t209 (t209.length : Int) 0 l m bt204.1 bt204.2))) else (none)) else (none))) R →
    Ev (fun k => spec_seFar.l2 k far dl a far (N : Int) (i : Int) l m) R := by
  intro r
  induction r with
  | zero =>
    intro i a hi ha h
    refine Ev.step (fun k => spec_seFar.l2.eq_2 ..) ?_
    simp only [if_neg (show ¬ (i : Int) < (N : Int) by omega)]
    exact h
  | succ r ih =>
    intro i a hi ha h
    refine Ev.step (fun k => spec_seFar.l2.eq_2 ..) ?_
    rw [wr_id (a := (i : Int) + 1) (by omega) (by omega)]
    simp only [if_pos (show (i : Int) < (N : Int) by omega), if_pos (zle i), if_pos (show (i : Int) < (far.length : Int) by omega), if_pos (show (i : Int) < (dl.length : Int) by omega)]
    simp only [selP] at h
    have go := ih (i + 1)
    rw [show ((i + 1 : Nat) : Int) = (i : Int) + 1 by omega] at go
    cases hdn : rdOf false dl (i : Int) with
    | true =>
      simp only [hdn, if_true] at h ⊢
      exact go a (by omega) ha h
    | false =>
      simp only [hdn, Bool.false_eq_true, if_false] at h ⊢
      by_cases hf : 0 ≤ rd far (i : Int)
      · simp only [if_pos hf] at h
        simp only [if_pos (show rd far (i : Int) ≥ 0 from hf)]
        by_cases ha0 : a < 0
        · simp only [if_pos ha0] at h ⊢
          exact go i (by omega) (.inr ⟨by omega, by omega⟩) h
        · simp only [if_neg ha0] at h ⊢
          simp only [if_pos (show 0 ≤ a by omega), if_pos (show a < (far.length : Int) by omega)]
          by_cases hlt : rd far (i : Int) < rd far a
          · simp only [if_pos hlt] at h ⊢
            exact go i (by omega) (.inr ⟨by omega, by omega⟩) h
          · simp only [if_neg hlt] at h ⊢
            exact go a (by omega) ha h
      · simp only [if_neg hf] at h
        simp only [if_neg (show ¬ rd far (i : Int) ≥ 0 from hf)]
        exact go a (by omega) ha h
theorem edgP_bounded (h : goodP l m = true) (N : Nat) (hN : (N : Int) = 2 ^ (l.length + 1)) (s : Int) (hs : 0 ≤ s ∧ s < (N : Int)) : Bounded (EdgP enS true l m) (fun v => v = s) N := by
  have hn := (goodP_times h).2.1
  refine ⟨?_, fun v hv => by subst hv; exact hs⟩
  rintro u v c ⟨ov, tr, t, hl, rfl, ht, rfl, hc⟩
  have h1 := en_facts hn ov tr hl
  have h2 := en_facts hn (mv (!tr) t ov) (!tr) (by rw [mv_len]; exact hl)
  have h3 := cst_bound h true hl ht
  omega
theorem ndS_iff (h : goodP l m = true) (ov : List Bool) (tr : Bool) (hl : ov.length = l.length) (v : Int) (c : Nat) : EdgP enS true l m (enS ov tr) v c ↔ (v, (c : Int)) ∈ ndS l m ov tr := by
  have hn := (goodP_times h).2.1
  unfold ndS
  rw [List.mem_map]
  constructor
  · rintro ⟨ov', tr', t, hl', e, ht, rfl, hc⟩
    obtain ⟨rfl, rfl⟩ := enS_inj hn hl hl' e
    refine ⟨t, ht, ?_⟩
    rw [hc]
    rfl
  · rintro ⟨t, ht, e⟩
    obtain ⟨e1, e2⟩ := Prod.mk.inj e
    exact ⟨ov, tr, t, hl, rfl, ht, e1.symm, e2.symm⟩
theorem cnt_true_set : ∀ (dl : List Bool) (a : Nat), a < dl.length → rdOf false dl (a : Int) = false → (dl.set a true).countP (fun x => !x) + 1 = dl.countP (fun x => !x) := by
  intro dl
  induction dl with
  | nil => intro a h; simp at h
  | cons x dl ih =>
    intro a h hx
    cases a with
    | zero =>
      have : x = false := by simpa [rdOf] using hx
      subst this
      simp [List.countP_cons]
    | succ a =>
      have := ih a (by simpa using h) (by simpa [rdOf] using hx)
      simp only [List.set_cons_succ, List.countP_cons]
      omega
theorem rdB_set (dl : List Bool) (a v : Int) (a0 : 0 ≤ a) (a1 : a < (dl.length : Int)) (v0 : 0 ≤ v) : rdOf false (dl.set a.toNat true) v = (decide (v = a) || rdOf false dl v) := by
  unfold rdOf
  rw [List.getD_eq_getElem?_getD, List.getD_eq_getElem?_getD, List.getElem?_set]
  by_cases e : v = a
  · subst e
    rw [if_pos rfl, if_pos (by omega)]
    simp
  · rw [if_neg (by omega), decide_eq_false e, Bool.false_or]
theorem far_l1 (h : goodP l m = true) (N : Nat) (hN : (N : Int) = 2 ^ (l.length + 1)) (hN2 : N ≤ 512) (s : Int) (hs : 0 ≤ s ∧ s < (N : Int)) :
    ∀ (g : Nat) (far : List Int) (dl : List Bool), dl.countP (fun x => !x) ≤ g → g ≤ 512 → dl.length = N → DInv (EdgP enS true l m) (fun v => v = s) N far (fun v => rdOf false dl v) → (∀ v, 0 ≤ v → v < (N : Int) → rd far v ≤ 1000 * (512 - (g : Int))) →
      ∃ far', Ev (fun k => spec_seFar.l1 k far dl l m) far' ∧ far'.length = N ∧ ∀ v, 0 ≤ v → v < (N : Int) → IsLeast (H.Way (EdgP enS true l m) (fun v => v = s) v) (rd far' v) := by
  have hB := edgP_bounded h N hN s hs
  obtain ⟨hn1, hn, hx, hm1, hm3⟩ := goodP_times h
  intro g
  induction g with
  | zero =>
    intro far dl hg hg2 hdl hI hle
    have hall : ∀ v, 0 ≤ v → v < (N : Int) → rdOf false dl v = true := by
      intro v v0 v1
      have : dl.countP (fun x => !x) = 0 := by omega
      rw [List.countP_eq_zero] at this
      have hv : v.toNat < dl.length := by omega
      have := this (dl[v.toNat]) (List.getElem_mem hv)
      simpa [rdOf, List.getD_eq_getElem?_getD, List.getElem?_eq_getElem hv] using this
    obtain ⟨s1, s2⟩ := selP_ok far dl (N : Int) N 0 (-1) (by omega) (by omega) (.inl rfl) (fun u u0 u1 => by omega)
    have hsel : selP far dl N 0 (-1) = -1 := by
      rcases s1 with q | ⟨q0, q1, q2, _⟩
      · exact q
      · rw [hall _ q0 q1] at q2; cases q2
    refine ⟨far, ?_, hI.len, hI.fin hB (fun v v0 v1 hd => by rw [hall v v0 v1] at hd; cases hd)⟩
    refine Ev.step (fun k => spec_seFar.l1.eq_2 ..) ?_
    rw [hI.len]
    refine far_l2 N (by omega) far dl hI.len hdl far N 0 (-1) (by omega) (.inl rfl) ?_
    rw [show ((0 : Nat) : Int) = 0 from rfl, hsel]
    simp only [if_pos (show (-1 : Int) < 0 by omega)]
    exact Ev.now _
  | succ g ih =>
    intro far dl hg hg2 hdl hI hle
    obtain ⟨s1, s2⟩ := selP_ok far dl (N : Int) N 0 (-1) (by omega) (by omega) (.inl rfl) (fun u u0 u1 => by omega)
    rcases s1 with hsel | ⟨a0, a1, a2, a3⟩
    · refine ⟨far, ?_, hI.len, hI.fin hB (fun v v0 v1 hd => ?_)⟩
      · refine Ev.step (fun k => spec_seFar.l1.eq_2 ..) ?_
        rw [hI.len]
        refine far_l2 N (by omega) far dl hI.len hdl far N 0 (-1) (by omega) (.inl rfl) ?_
        rw [show ((0 : Nat) : Int) = 0 from rfl, hsel]
        simp only [if_pos (show (-1 : Int) < 0 by omega)]
        exact Ev.now _
      · by_cases hf : 0 ≤ rd far v
        · have := (s2 v v0 v1 hd hf).1; omega
        · omega
    · generalize hsel : selP far dl N 0 (-1) = a at a0 a1 a2 a3 s2
      obtain ⟨q1, q2, q3, q4⟩ := dc_facts hn a a0 (by rw [← hN]; exact a1)
      have hst := seState_ev hn a a0 (by rw [← hN]; exact a1)
      obtain ⟨ov, tr, hds⟩ : ∃ ov tr, dcS l.length a = (ov, tr) := ⟨_, _, rfl⟩
      rw [hds] at q3 q4 hst
      dsimp only at q3 q4
      subst q4
      have hlt := hle _ a0 a1
      have hL2 : ∀ e ∈ ndS l m ov tr, 0 ≤ e.1 ∧ e.1 < (N : Int) ∧ 1 ≤ e.2 ∧ e.2 ≤ 1000 := by
        intro e he
        unfold ndS at he
        obtain ⟨t, ht, rfl⟩ := List.mem_map.1 he
        have h2 := en_facts hn (mv (!tr) t ov) (!tr) (by rw [mv_len]; exact q3)
        have h3 := cst_bound h true q3 ht
        simp only [cstP, if_true] at h3
        exact ⟨h2.2.2.2.1, by rw [hN]; exact h2.2.2.2.2.1, h3.1, h3.2⟩
      have hstep := hI.step hB a0 a1 a2 a3 (fun u u0 u1 hu hf => (s2 u u0 u1 hu hf).2) (ndS l m ov tr) (fun v c => ndS_iff h ov tr q3 v c) (fun e he => by have := hL2 e he; omega)
      obtain ⟨k1, k2, k3⟩ := dk_keep (rd far (enS ov tr)) N (1000 * (512 - (g : Int))) (enS ov tr) a0 a1 a3 (ndS l m ov tr) far hI.len (fun e he => by have := hL2 e he; omega) rfl (fun v v0 v1 => by have := hle v v0 v1; omega)
      have hI' := DInv_congr (dn' := fun v => rdOf false (dl.set (enS ov tr).toNat true) v) hstep hB (fun v v0 v1 => (rdB_set dl (enS ov tr) v a0 (by omega) v0).symm)
      have hcnt := cnt_true_set dl (enS ov tr).toNat (by omega) (by rw [Int.toNat_of_nonneg a0]; exact a2)
      obtain ⟨far', e1, e2, e3⟩ := ih _ (dl.set (enS ov tr).toNat true) (by omega) (by omega) (by simpa using hdl) hI' k3
      refine ⟨far', ?_, e2, e3⟩
      refine Ev.step (fun k => spec_seFar.l1.eq_2 ..) ?_
      rw [hI.len]
      refine far_l2 N (by omega) far dl hI.len hdl far' N 0 (-1) (by omega) (.inl rfl) ?_
      rw [show ((0 : Nat) : Int) = 0 from rfl, hsel]
      simp only [if_neg (show ¬ enS ov tr < 0 by omega), if_pos a0, if_pos (show enS ov tr < (dl.length : Int) by omega)]
      refine Ev.bind hst ?_
      dsimp only
      refine Ev.bind (paTrips_ev l m ov tr hm1 (by omega)) ?_
      have hgl := grpsF_len m (sideP tr ov 0) []
      have hsl := sideP_len tr ov 0
      have hpw : 2 ^ (sideP tr ov 0).length ≤ 2 ^ 8 := Nat.pow_le_pow_right (by omega) (by omega)
      refine far_l3 h N hN (enS ov tr) (rd far (enS ov tr)) (1000 * (512 - (g : Int))) a0 a1 a3 (by omega) (by omega) (dl.set (enS ov tr).toNat true) ov tr q3 far' (tripsP m ov tr) (by unfold tripsP; omega) (fun t ht => ht) (tripsP m ov tr) [] far rfl hI.len rfl (fun v v0 v1 => by have := hle v v0 v1; omega) ?_
      exact e1
end
end Go.Proofs.Ytamljjfhkolflaa.Pure
