import Derived.Test.YtamljjfhkolflaaC6zx0
import Derived.Test.YtamljjfhkolflaaC6zx8
import Derived.Test.YtamljjfhkolflaaC6zH0
import Derived.Test.YtamljjfhkolflaaC6zH1
import Derived.Test.YtamljjfhkolflaaC6zQ0
import Derived.Test.YtamljjfhkolflaaC6zQ1
import Derived.Test.YtamljjfhkolflaaC6zQ2
import Derived.Test.YtamljjfhkolflaaC6zQ3
import Derived.Test.YtamljjfhkolflaaC6zQ4
import Derived.Test.YtamljjfhkolflaaC6zQ5
import Derived.Test.YtamljjfhkolflaaC6zQS
import Derived.Test.YtamljjfhkolflaaC6zQG
import Derived.Test.YtamljjfhkolflaaC6zQN
namespace Go.Proofs.Ytamljjfhkolflaa.Pure
open Go.RowKit Go.Proofs.Ytamljjfhkolflaa.C6 Go.Proofs.Ytamljjfhkolflaa.H Go.Proofs.YtamljjfhkolflaaW.PrintWords Go.Proofs.YtamljjfhkolflaaW.PrintLast Go.Proofs.YtamljjfhkolflaaW.PrintMore
set_option linter.unusedVariables false
set_option linter.unusedSimpArgs false
theorem way_rel {E E' : Int → Int → Nat → Prop} {S S' : Int → Prop} (R : Int → Int → Prop) (hs : ∀ s, S s → ∃ s', S' s' ∧ R s s') (he : ∀ u u' v c, R u u' → E u v c → ∃ v', E' u' v' c ∧ R v v') {v : Int} {n : Nat} (h : H.Way E S v n) : ∃ v', R v v' ∧ H.Way E' S' v' n := by
  induction h with
  | here h => obtain ⟨s', h1, h2⟩ := hs _ h; exact ⟨s', h2, H.Way.here h1⟩
  | on hu h ih =>
    obtain ⟨u', h1, h2⟩ := ih
    obtain ⟨v', h3, h4⟩ := he _ _ _ _ h1 h
    exact ⟨v', h4, H.Way.on h2 h3⟩
theorem grpsF_mem (m : Int) : ∀ (r l g : List Int), g ∈ grpsF m r l ↔ ∃ t, t ≠ [] ∧ t.Sublist r ∧ g = l ++ t ∧ ((l.length + t.length : Nat) : Int) ≤ m := by
  intro r
  induction r with
  | nil =>
    intro l g
    simp only [grpsF, List.not_mem_nil, false_iff]
    rintro ⟨t, h1, h2, _⟩
    exact h1 (List.eq_nil_of_sublist_nil h2)
  | cons x r ih =>
    intro l g
    simp only [grpsF]
    split
    · rename_i hl
      simp only [List.mem_cons, List.mem_append, ih]
      constructor
      · rintro (rfl | ⟨t, h1, h2, rfl, h3⟩ | ⟨t, h1, h2, rfl, h3⟩)
        · exact ⟨[x], by simp, by simp, rfl, by simp; omega⟩
        · exact ⟨x :: t, by simp, h2.cons_cons x, by simp, by simp only [List.length_append, List.length_cons, List.length_nil] at h3 ⊢; omega⟩
        · exact ⟨t, h1, h2.cons x, rfl, h3⟩
      · rintro ⟨t, h1, h2, rfl, h3⟩
        cases h2 with
        | cons _ h2 => exact .inr (.inr ⟨t, h1, h2, rfl, h3⟩)
        | @cons_cons t' _ _ h2 =>
          by_cases ht : t' = []
          · subst ht; exact .inl rfl
          · exact .inr (.inl ⟨t', ht, h2, by simp, by simp only [List.length_append, List.length_cons, List.length_nil] at h3 ⊢; omega⟩)
    · rename_i hl
      simp only [List.not_mem_nil, false_iff]
      rintro ⟨t, h1, h2, rfl, h3⟩
      have : 0 < t.length := List.length_pos_iff.2 h1
      omega
theorem sideP_mem (b : Bool) : ∀ (r : List Bool) (i : Nat) (x : Int), x ∈ sideP b r i ↔ ∃ j : Nat, x = ((i + j : Nat) : Int) ∧ r[j]? = some b := by
  intro r
  induction r with
  | nil => intro i x; simp [sideP]
  | cons y r ih =>
    intro i x
    have hiff : (∃ j : Nat, x = ((i + j : Nat) : Int) ∧ (y :: r)[j]? = some b) ↔ (x = (i : Int) ∧ y = b) ∨ ∃ j : Nat, x = ((i + 1 + j : Nat) : Int) ∧ r[j]? = some b := by
      constructor
      · rintro ⟨j, h1, h2⟩
        cases j with
        | zero => exact .inl ⟨by simpa using h1, by simpa using h2⟩
        | succ j => exact .inr ⟨j, by rw [h1]; congr 1; omega, by simpa using h2⟩
      · rintro (⟨h1, h2⟩ | ⟨j, h1, h2⟩)
        · exact ⟨0, by simpa using h1, by simpa using h2⟩
        · exact ⟨j + 1, by rw [h1]; congr 1; omega, by simpa using h2⟩
    rw [hiff, ← ih (i + 1) x]
    simp only [sideP]
    by_cases hy : y = b
    · rw [if_pos (by simpa using hy), List.mem_cons]
      simp [hy]
    · rw [if_neg (by simpa using hy)]
      simp [hy]
theorem sideP_asc (b : Bool) : ∀ (r : List Bool) (i : Nat), (sideP b r i).Pairwise (· < ·) := by
  intro r
  induction r with
  | nil => intro i; simp [sideP]
  | cons y r ih =>
    intro i
    simp only [sideP]
    split
    · refine List.pairwise_cons.2 ⟨fun x hx => ?_, ih _⟩
      obtain ⟨j, rfl, _⟩ := (sideP_mem b r (i + 1) x).1 hx
      omega
    · exact ih _
theorem sub_asc : ∀ (L t : List Int), L.Pairwise (· < ·) → t.Pairwise (· < ·) → (∀ x ∈ t, x ∈ L) → t.Sublist L := by
  intro L
  induction L with
  | nil =>
    intro t _ _ h
    cases t with
    | nil => exact List.Sublist.refl _
    | cons x t => exact absurd (h x (by simp)) (by simp)
  | cons y L ih =>
    intro t hL ht h
    cases t with
    | nil => exact List.nil_sublist _
    | cons x t =>
      rw [List.pairwise_cons] at hL ht
      by_cases e : x = y
      · subst e
        refine (ih t hL.2 ht.2 fun z hz => ?_).cons_cons x
        rcases List.mem_cons.1 (h z (by simp [hz])) with rfl | q
        · exact absurd (ht.1 z hz) (by omega)
        · exact q
      · have hx : x ∈ L := by
          rcases List.mem_cons.1 (h x (by simp)) with q | q
          · exact absurd q e
          · exact q
        have hyx := hL.1 x hx
        refine (ih (x :: t) hL.2 (List.pairwise_cons.2 ht) fun z hz => ?_).cons y
        rcases List.mem_cons.1 (h z hz) with rfl | q
        · rcases List.mem_cons.1 hz with rfl | hz
          · exact absurd rfl e
          · have := ht.1 z hz; omega
        · exact q
theorem tripsP_mem {m : Int} {ov : List Bool} {tr : Bool} {t : List Int} : t ∈ tripsP m ov tr ↔ t ≠ [] ∧ (t.length : Int) ≤ m ∧ t.Pairwise (· < ·) ∧ ∀ x ∈ t, ∃ j : Nat, x = (j : Int) ∧ ov[j]? = some tr := by
  unfold tripsP
  rw [grpsF_mem]
  constructor
  · rintro ⟨t', h1, h2, e, h3⟩
    have e : t = t' := e
    subst e
    refine ⟨h1, by simpa using h3, (sideP_asc tr ov 0).sublist h2, fun x hx => ?_⟩
    obtain ⟨j, hj, h⟩ := (sideP_mem tr ov 0 x).1 (h2.subset hx)
    exact ⟨j, by simpa using hj, h⟩
  · rintro ⟨h1, h2, h3, h4⟩
    refine ⟨t, h1, sub_asc _ _ (sideP_asc tr ov 0) h3 (fun x hx => ?_), rfl, by simpa using h2⟩
    obtain ⟨j, rfl, h⟩ := h4 x hx
    exact (sideP_mem tr ov 0 _).2 ⟨j, by simp, h⟩
theorem trip_in {m : Int} {ov : List Bool} {tr : Bool} {t : List Int} (h : t ∈ tripsP m ov tr) : ∀ x ∈ t, 0 ≤ x ∧ x < (ov.length : Int) ∧ rdOf false ov x = tr := by
  intro x hx
  obtain ⟨j, rfl, hj⟩ := (tripsP_mem.1 h).2.2.2 x hx
  have := (List.getElem?_eq_some_iff.1 hj).1
  exact ⟨by omega, by omega, by simp [rdOf, List.getD_eq_getElem?_getD, hj]⟩
def cstP (timed : Bool) (l t : List Int) : Int := if timed = true then mxs l t 0 else 1
def EdgP (en : List Bool → Bool → Int) (timed : Bool) (l : List Int) (m : Int) (u v : Int) (c : Nat) : Prop := ∃ ov tr t, ov.length = l.length ∧ u = en ov tr ∧ t ∈ tripsP m ov tr ∧ v = en (mv (!tr) t ov) (!tr) ∧ (c : Int) = cstP timed l t
theorem rd_in (l : List Int) (x : Int) (h0 : 0 ≤ x) (h1 : x < (l.length : Int)) : rd l x ∈ l := by
  have : x.toNat < l.length := by omega
  simp [rd, List.getD_eq_getElem?_getD, List.getElem?_eq_getElem this]
theorem mxs_le (l : List Int) (B : Int) : ∀ (t : List Int) (k : Int), k ≤ B → (∀ x ∈ t, rd l x ≤ B) → mxs l t k ≤ B ∧ k ≤ mxs l t k ∧ ∀ x ∈ t, rd l x ≤ mxs l t k := by
  intro t
  induction t with
  | nil => intro k hk _; exact ⟨hk, Int.le_refl _, by simp⟩
  | cons x t ih =>
    intro k hk h
    have hx := h x (by simp)
    obtain ⟨h1, h2, h3⟩ := ih (max k (rd l x)) (by omega) (fun y hy => h y (by simp [hy]))
    simp only [mxs]
    refine ⟨h1, by omega, fun y hy => ?_⟩
    rcases List.mem_cons.1 hy with rfl | hy
    · omega
    · exact h3 y hy
theorem goodP_times {l : List Int} {m : Int} (h : goodP l m = true) : 1 ≤ l.length ∧ l.length ≤ 8 ∧ (∀ x ∈ l, 1 ≤ x ∧ x ≤ 1000) ∧ 1 ≤ m ∧ m ≤ 3 := by
  simp only [goodP, inB, Bool.and_eq_true, decide_eq_true_eq, List.all_eq_true] at h
  exact ⟨by omega, by omega, fun x hx => by have := h.1.2 x hx; omega, by omega, by omega⟩
theorem cst_bound {l : List Int} {m : Int} (h : goodP l m = true) (timed : Bool) {ov : List Bool} {tr : Bool} {t : List Int} (hl : ov.length = l.length) (ht : t ∈ tripsP m ov tr) : 1 ≤ cstP timed l t ∧ cstP timed l t ≤ 1000 := by
  obtain ⟨_, _, hx, _⟩ := goodP_times h
  have hi := trip_in ht
  have h1 := (tripsP_mem.1 ht).1
  unfold cstP
  split
  · have hb : ∀ x ∈ t, 1 ≤ rd l x ∧ rd l x ≤ 1000 := fun x hxt => hx _ (rd_in l x (hi x hxt).1 (by rw [← hl]; exact (hi x hxt).2.1))
    obtain ⟨q1, q2, q3⟩ := mxs_le l 1000 t 0 (by omega) (fun x hxt => (hb x hxt).2)
    cases t with
    | nil => exact absurd rfl h1
    | cons x t => have := q3 x (by simp); have := hb x (by simp); omega
  · omega
def rIS (n : Nat) (u u' : Int) : Prop := ∃ ov tr, ov.length = n ∧ u = enS ov tr ∧ u' = enI ov tr
theorem enS_inj {n : Nat} (hn : n ≤ 8) {ov ov' : List Bool} {tr tr' : Bool} (h : ov.length = n) (h' : ov'.length = n) (e : enS ov tr = enS ov' tr') : ov = ov' ∧ tr = tr' := by
  have h1 := (en_facts hn ov tr h).2.2.2.2.2
  have h2 := (en_facts hn ov' tr' h').2.2.2.2.2
  rw [e, h2] at h1
  exact ⟨(Prod.mk.inj h1).1.symm, (Prod.mk.inj h1).2.symm⟩
theorem enI_inj {n : Nat} (hn : n ≤ 8) {ov ov' : List Bool} {tr tr' : Bool} (h : ov.length = n) (h' : ov'.length = n) (e : enI ov tr = enI ov' tr') : ov = ov' ∧ tr = tr' := by
  have h1 := (en_facts hn ov tr h).2.2.1
  have h2 := (en_facts hn ov' tr' h').2.2.1
  rw [e, h2] at h1
  exact ⟨(Prod.mk.inj h1).1.symm, (Prod.mk.inj h1).2.symm⟩
theorem way_IS {l : List Int} {m : Int} (h : goodP l m = true) (timed : Bool) (ov ov' : List Bool) (tr tr' : Bool) (hl : ov.length = l.length) (hl' : ov'.length = l.length) (k : Nat) :
    H.Way (EdgP enS timed l m) (fun v => v = enS ov tr) (enS ov' tr') k ↔ H.Way (EdgP enI timed l m) (fun v => v = enI ov tr) (enI ov' tr') k := by
  have hn := (goodP_times h).2.1
  constructor
  · intro hw
    obtain ⟨v', ⟨o, b, ho, e, rfl⟩, hw'⟩ := way_rel (E' := EdgP enI timed l m) (S' := fun v => v = enI ov tr) (rIS l.length) (fun s hs => ⟨enI ov tr, rfl, ov, tr, hl, hs, rfl⟩) (by
      rintro u u' v c ⟨o, b, ho, rfl, rfl⟩ ⟨o2, b2, t, ho2, e, ht, rfl, hc⟩
      obtain ⟨rfl, rfl⟩ := enS_inj hn ho ho2 e
      exact ⟨_, ⟨o, b, t, ho, rfl, ht, rfl, hc⟩, _, _, by rw [mv_len]; exact ho, rfl, rfl⟩) hw
    obtain ⟨rfl, rfl⟩ := enS_inj hn hl' ho e
    exact hw'
  · intro hw
    obtain ⟨v', ⟨o, b, ho, rfl, e⟩, hw'⟩ := way_rel (E' := EdgP enS timed l m) (S' := fun v => v = enS ov tr) (fun u' u => rIS l.length u u') (fun s hs => ⟨enS ov tr, rfl, ov, tr, hl, rfl, hs⟩) (by
      rintro u' u v c ⟨o, b, ho, rfl, rfl⟩ ⟨o2, b2, t, ho2, e, ht, rfl, hc⟩
      obtain ⟨rfl, rfl⟩ := enI_inj hn ho ho2 e
      exact ⟨_, ⟨o, b, t, ho, rfl, ht, rfl, hc⟩, _, _, by rw [mv_len]; exact ho, rfl, rfl⟩) hw
    obtain ⟨rfl, rfl⟩ := enI_inj hn hl' ho e
    exact hw'
end Go.Proofs.Ytamljjfhkolflaa.Pure
