import Derived.Test.YtamljjfhkolflaaC6zx0
import Derived.Test.YtamljjfhkolflaaC6zx1
import Derived.Test.YtamljjfhkolflaaC6zx11
import Derived.Test.YtamljjfhkolflaaC6zx5
import Derived.Test.YtamljjfhkolflaaC6zx6
import Derived.Test.YtamljjfhkolflaaC6zx8
import Derived.Test.YtamljjfhkolflaaC6zx9
import Derived.Test.YtamljjfhkolflaaC6zH0
import Derived.Test.YtamljjfhkolflaaC6zH1
import Derived.Test.YtamljjfhkolflaaC6zQ0
import Derived.Test.YtamljjfhkolflaaC6zQ1
import Derived.Test.YtamljjfhkolflaaC6zQ2
import Derived.Test.YtamljjfhkolflaaC6zQ3
import Derived.Test.YtamljjfhkolflaaC6zQ4
import Derived.Test.YtamljjfhkolflaaC6zQ5
import Derived.Test.YtamljjfhkolflaaC6zQS
import Derived.Test.YtamljjfhkolflaaC6zQG
import Derived.Test.YtamljjfhkolflaaC6zQN
import Derived.Test.YtamljjfhkolflaaC6zQP
import Derived.Test.YtamljjfhkolflaaC6zQT
import Derived.Test.YtamljjfhkolflaaC6zQD
namespace Go.Proofs.Ytamljjfhkolflaa.Pure
open Go.RowKit Go.Proofs.Ytamljjfhkolflaa.C6 Go.Proofs.Ytamljjfhkolflaa.H Go.Proofs.YtamljjfhkolflaaW.PrintWords Go.Proofs.YtamljjfhkolflaaW.PrintLast Go.Proofs.YtamljjfhkolflaaW.PrintMore
set_option linter.unusedVariables false
set_option linter.unusedSimpArgs false
theorem shl2 {n : Nat} (h : n ≤ 8) : shl .i64 2 (n : Int) = ((2 ^ (n + 1) : Nat) : Int) := by
  have : n = 0 ∨ n = 1 ∨ n = 2 ∨ n = 3 ∨ n = 4 ∨ n = 5 ∨ n = 6 ∨ n = 7 ∨ n = 8 := by omega
  rcases this with rfl | rfl | rfl | rfl | rfl | rfl | rfl | rfl | rfl <;> decide +kernel
theorem pow_nat (n : Nat) : ((2 ^ (n + 1) : Nat) : Int) = 2 ^ (n + 1) := by simp
theorem paFirst_eq (l : List Int) (m : Int) (hl : l.length ≤ 1048576) : spec_paFirst.f l m = some (List.replicate l.length false, false) := by
  unfold spec_paFirst.f
  rw [if_pos (zle _), if_pos (show ((l.length : Int)).toNat ≤ 281474976710656 by omega), Int.toNat_natCast]
section
variable {l : List Int} {m : Int}
theorem far_fill (fo : List Bool) (ft : Bool) (dl : List Bool) (R : List Int) : ∀ (n : Nat) (pre : List Int), (∀ v ∈ pre, v = -1) → pre.length + n ≤ 1000 → Ev (fun k => (spec_seIndex.f k fo ft).bind fun t198 => (if 0 ≤ t198 then (if t198 < ((List.replicate (pre.length + n) (-1 : Int)).length : Int) then (spec_seFar.l1 k ((List.replicate (pre.length + n) (-1 : Int)).set (t198 : Int).toNat 0) dl l m) else (none)) else (none))) R →
    Ev (fun k => spec_seFar.l0 k (pre ++ List.replicate n 0) dl ((pre.length + n : Nat) : Int) (pre.length : Int) l m fo ft) R := by
  intro n
  induction n with
  | zero =>
    intro pre hp hl h
    have e : pre = List.replicate (pre.length + 0) (-1) := List.eq_replicate_iff.2 ⟨by simp, hp⟩
    refine Ev.step (fun k => spec_seFar.l0.eq_2 ..) ?_
    rw [show pre ++ List.replicate 0 0 = pre by simp]
    rw [← e] at h
    simp only [if_neg (show ¬ (pre.length : Int) < ((pre.length + 0 : Nat) : Int) by omega)]
    exact h
  | succ n ih =>
    intro pre hp hl h
    refine Ev.step (fun k => spec_seFar.l0.eq_2 ..) ?_
    rw [List.replicate_succ, set_mid, wr_id (a := (pre.length : Int) + 1) (by omega) (by omega)]
    simp only [if_pos (show (pre.length : Int) < ((pre.length + (n + 1) : Nat) : Int) by omega), if_pos (zle pre.length), if_pos (lt_mid pre (0 : Int) (List.replicate n 0))]
    rw [app_mid]
    have := ih (pre ++ [-1]) (fun v hv => by
      rcases List.mem_append.1 hv with hv | hv
      · exact hp v hv
      · simpa using hv) (by simp; omega) (by rw [show (pre ++ [(-1 : Int)]).length + n = pre.length + (n + 1) by simp; omega]; exact h)
    rw [show ((pre ++ [(-1 : Int)]).length + n : Nat) = pre.length + (n + 1) by simp; omega, show (((pre ++ [(-1 : Int)]).length : Nat) : Int) = (pre.length : Int) + 1 by simp] at this
    exact this
theorem seFar_ok (h : goodP l m = true) (fo : List Bool) (ft : Bool) (hf : fo.length = l.length) : ∃ far, Ev (fun k => spec_seFar.f k l m fo ft) far ∧ far.length = 2 ^ (l.length + 1) ∧ ∀ v, 0 ≤ v → v < (far.length : Int) → IsLeast (H.Way (EdgP enS true l m) (fun v => v = enS fo ft) v) (rd far v) := by
  obtain ⟨_, hn, _⟩ := goodP_times h
  obtain ⟨hp0, hp1, _⟩ := pow_le8 hn
  have hp2 : 2 ^ (l.length + 1) ≤ 512 := by
    have : 2 ^ (l.length + 1) ≤ 2 ^ 9 := Nat.pow_le_pow_right (by omega) (by omega)
    exact this
  obtain ⟨N, hN⟩ : ∃ N, N = 2 ^ (l.length + 1) := ⟨_, rfl⟩
  have hNi : (N : Int) = 2 ^ (l.length + 1) := by rw [hN]; exact pow_nat _
  have hs := en_facts hn fo ft hf
  have hs' : 0 ≤ enS fo ft ∧ enS fo ft < (N : Int) := ⟨hs.2.2.2.1, by rw [hNi]; exact hs.2.2.2.2.1⟩
  have hB := edgP_bounded h N hNi (enS fo ft) hs'
  have hI := DInv.init hB (enS fo ft) (fun x => Iff.rfl)
  have hrep : ∀ v, 0 ≤ v → v < (N : Int) → rdOf false (List.replicate N false) v = false := fun v v0 v1 => by
    unfold rdOf
    rw [List.getD_eq_getElem?_getD, List.getElem?_replicate]
    split <;> rfl
  have hI := DInv_congr (dn' := fun v => rdOf false (List.replicate N false) v) hI hB (fun v v0 v1 => (hrep v v0 v1).symm)
  obtain ⟨far, e1, e2, e3⟩ := far_l1 h N hNi (by omega) (enS fo ft) hs' 512 _ (List.replicate N false) (Nat.le_trans List.countP_le_length (by rw [List.length_replicate]; omega)) (by omega) (by simp) hI (fun v v0 v1 => by
    rw [rd_set _ _ v 0 hs'.1 (by simpa using hs'.2) v0]
    split
    · omega
    · rw [rd_rep N (-1) v v0 v1]; omega)
  refine ⟨far, ?_, by rw [e2, hN], by rw [e2]; exact e3⟩
  unfold spec_seFar.f
  rw [shl2 hn, ← hN, Int.toNat_natCast]
  simp only [if_pos (zle N), if_pos (show N ≤ 35184372088832 by omega), Option.bind_some, List.length_replicate, Int.toNat_natCast, if_pos (show N ≤ 281474976710656 by omega)]
  have hfl := far_fill (l := l) (m := m) fo ft (List.replicate N false) far N [] (by simp) (by simp; omega) (by
    refine Ev.bind (seIndex_ev hn fo ft hf) ?_
    simp only [List.length_nil, Nat.zero_add, List.length_replicate]
    simp only [if_pos hs'.1, if_pos hs'.2]
    exact e1)
  simpa using hfl
def esP (timed : Bool) (l : List Int) (m : Int) (u : Int) : List Edg := (tripsP m (dcI l.length u).1 (dcI l.length u).2).map fun t => (enI (mv (!(dcI l.length u).2) t (dcI l.length u).1) (!(dcI l.length u).2), cstP timed l t, t)
theorem ptyStep_ev (h : goodP l m = true) (timed : Bool) {ov : List Bool} {tr : Bool} (hl : ov.length = l.length) (s : List Edg) {t : List Int} (ht : t ∈ tripsP m ov tr) (hs : s.length < 1099511627776) : Ev (fun k => ptyStep k timed l ov tr s t) (s ++ [(enI (mv (!tr) t ov) (!tr), cstP timed l t, t)]) := by
  have hn := (goodP_times h).2.1
  have hm := (goodP_times h).2.2.2
  have hi := trip_in ht
  have htl : t.length ≤ 1048576 := by have := (tripsP_mem.1 ht).2.1; omega
  unfold ptyStep ptyCost cstP
  have hc : Ev (fun k => if timed = true then impl_slowest.f k l t else some 1) (if timed = true then mxs l t 0 else 1) := by
    cases timed with
    | false => exact Ev.now _
    | true => exact slowest_ev l t htl (fun x hx => ⟨(hi x hx).1, by rw [← hl]; exact (hi x hx).2.1⟩)
  refine Ev.bind hc (Ev.bind (moved_ev ov tr t (by omega) htl (fun x hx => ⟨(hi x hx).1, (hi x hx).2.1⟩)) ?_)
  dsimp only
  refine Ev.bind (code_ev hn (mv (!tr) t ov) (!tr) (by rw [mv_len]; exact hl)) ?_
  simp only [if_pos hs]
  exact Ev.now _
theorem fold_ev (h : goodP l m = true) (timed : Bool) {ov : List Bool} {tr : Bool} (hl : ov.length = l.length) : ∀ (gs : List (List Int)) (s : List Edg), (∀ t ∈ gs, t ∈ tripsP m ov tr) → s.length + gs.length < 1099511627776 → Ev (fun k => gs.foldlM (ptyStep k timed l ov tr) s) (s ++ gs.map fun t => (enI (mv (!tr) t ov) (!tr), cstP timed l t, t)) := by
  intro gs
  induction gs with
  | nil => intro s _ _; simp only [List.foldlM_nil, List.map_nil, List.append_nil]; exact Ev.now _
  | cons t gs ih =>
    intro s hg hs
    simp only [List.length_cons] at hs
    simp only [List.foldlM_cons, List.map_cons]
    have := ih (s ++ [(enI (mv (!tr) t ov) (!tr), cstP timed l t, t)]) (fun x hx => hg x (by simp [hx])) (by simp; omega)
    rw [List.append_assoc] at this
    exact Ev.bind (ptyStep_ev h timed hl s (hg t (by simp)) (by omega)) this
theorem ptyOut_ev (h : goodP l m = true) (timed : Bool) (u : Int) (u0 : 0 ≤ u) (u1 : u < 2 ^ (l.length + 1)) : Ev (fun k => ptyOut k timed l m u) (esP timed l m u) := by
  have hn := (goodP_times h).2.1
  have hd := dc_facts hn u u0 u1
  unfold ptyOut
  refine Ev.bind (stateOf_ev hn u u0 u1) ?_
  unfold esP
  generalize dcI l.length u = st at hd ⊢
  obtain ⟨ov, tr⟩ := st
  dsimp only at hd ⊢
  refine Ev.bind (side_ev ov tr tr (by omega)) ?_
  have hsl := sideP_len tr ov 0
  simp only [if_pos (show (sideP tr ov 0).length ≤ 20 by omega)]
  have hgl := grpsF_len m (sideP tr ov 0) []
  have hpw : 2 ^ (sideP tr ov 0).length ≤ 2 ^ 8 := Nat.pow_le_pow_right (by omega) (by omega)
  have := fold_ev h timed hd.1 (tripsP m ov tr) [] (fun t ht => ht) (by unfold tripsP; simp; omega)
  simp only [List.nil_append] at this
  exact this
theorem ev_all {α : Type} (f : Nat → Nat → Option α) (r : Nat → α) : ∀ (N : Nat), (∀ u, u < N → Ev (fun k => f k u) (r u)) → ∃ K, ∀ k, K ≤ k → ∀ u, u < N → f k u = some (r u) := by
  intro N
  induction N with
  | zero => intro _; exact ⟨0, fun k _ u hu => absurd hu (Nat.not_lt_zero _)⟩
  | succ N ih =>
    intro h
    obtain ⟨K1, h1⟩ := ih (fun u hu => h u (by omega))
    obtain ⟨K2, h2⟩ := h N (by omega)
    refine ⟨max K1 K2, fun k hk u hu => ?_⟩
    by_cases e : u = N
    · subst e; exact h2 k (by omega)
    · exact h1 k (by omega) u (by omega)
theorem from_p (h : goodP l m = true) (timed : Bool) (st : Int) (s0 : 0 ≤ st) (s1 : st < 2 ^ (l.length + 1)) : ∃ r, Ev (fun k => bkD (ptyOut k timed l m) k 0 (List.replicate (2 ^ (l.length + 1)) (-1)) [[st]]) r ∧ r.length = 2 ^ (l.length + 1) ∧ ∀ v, 0 ≤ v → v < 2 ^ (l.length + 1) → IsLeast (H.Way (EdgP enI timed l m) (fun v => v = st) v) (rd r v) := by
  obtain ⟨hn1, hn, hx, hm⟩ := goodP_times h
  have hp2 : 2 ^ (l.length + 1) ≤ 512 := by
    have : 2 ^ (l.length + 1) ≤ 2 ^ 9 := Nat.pow_le_pow_right (by omega) (by omega)
    exact this
  have hpi := pow_nat l.length
  obtain ⟨N, hN⟩ : ∃ N, N = 2 ^ (l.length + 1) := ⟨_, rfl⟩
  rw [← hN] at hp2 hpi ⊢
  rw [← hpi] at s1 ⊢
  obtain ⟨o1, ho1⟩ : ∃ o1 : Int → Option (List Edg), o1 = fun u => if 0 ≤ u ∧ u < (N : Int) then some (esP timed l m u) else none := ⟨_, rfl⟩
  have ho1' : ∀ u, 0 ≤ u → u < (N : Int) → o1 u = some (esP timed l m u) := fun u u0 u1 => by rw [ho1]; exact if_pos ⟨u0, u1⟩
  have hmem : ∀ u, 0 ≤ u → u < (N : Int) → ∀ v (c : Nat), (∃ e ∈ esP timed l m u, e.1 = v ∧ e.2.1 = (c : Int)) ↔ EdgP enI timed l m u v c := by
    intro u u0 u1 v c
    have hd := dc_facts hn u u0 (by rw [← hpi]; exact u1)
    unfold esP
    generalize hst : dcI l.length u = sst at hd ⊢
    obtain ⟨ov, tr⟩ := sst
    dsimp only at hd ⊢
    constructor
    · rintro ⟨e, he, rfl, hc⟩
      obtain ⟨t, ht, rfl⟩ := List.mem_map.1 he
      exact ⟨ov, tr, t, hd.1, hd.2.1.symm, ht, rfl, hc.symm⟩
    · rintro ⟨ov2, tr2, t, hl2, e, ht, rfl, hc⟩
      obtain ⟨rfl, rfl⟩ := enI_inj hn hd.1 hl2 (hd.2.1.trans e)
      exact ⟨_, List.mem_map.2 ⟨t, ht, rfl⟩, rfl, hc.symm⟩
  have hok : Okay o1 N 1000 256 := by
    intro u u0 u1
    refine ⟨_, ho1' u u0 u1, ?_, fun e he => ?_⟩
    · have hd := dc_facts hn u u0 (by rw [← hpi]; exact u1)
      unfold esP
      rw [List.length_map]
      unfold tripsP
      have hsl := sideP_len (dcI l.length u).2 (dcI l.length u).1 0
      have hgl := grpsF_len m (sideP (dcI l.length u).2 (dcI l.length u).1 0) []
      have hpw : 2 ^ (sideP (dcI l.length u).2 (dcI l.length u).1 0).length ≤ 2 ^ 8 := Nat.pow_le_pow_right (by omega) (by omega)
      omega
    · have hd := dc_facts hn u u0 (by rw [← hpi]; exact u1)
      unfold esP at he
      obtain ⟨t, ht, rfl⟩ := List.mem_map.1 he
      have h2 := en_facts hn (mv (!(dcI l.length u).2) t (dcI l.length u).1) (!(dcI l.length u).2) (by rw [mv_len]; exact hd.1)
      have h3 := cst_bound h timed hd.1 ht
      exact ⟨h2.1, by rw [hpi]; exact h2.2.1, h3.1, h3.2⟩
  obtain ⟨K, r, r1, r2, r3⟩ := from_ok (starts := [st]) hok (by omega) (by decide) (by simp [bkLim]; omega) (by simp [bkLim]; omega) (by intro s hs; have : s = st := by simpa using hs
                                                                                                                                         subst this; exact ⟨s0, s1⟩)
  obtain ⟨K2, hK2⟩ := ev_all (fun k u => ptyOut k timed l m ((u : Nat) : Int)) (fun u => esP timed l m ((u : Nat) : Int)) N (fun u hu => ptyOut_ev h timed u (by omega) (by rw [← hpi]; omega))
  refine ⟨r, ⟨max K K2 + 1, fun k hk => ?_⟩, r2, fun v v0 v1 => (r3 v v0 v1).iff (fun n => ?_)⟩
  · obtain ⟨k, rfl⟩ : ∃ j, k = j + 1 := ⟨k - 1, by omega⟩
    have hr := r1 k (by omega)
    unfold fromF at hr
    rw [if_pos (by omega), Int.toNat_natCast] at hr
    refine bkD_up (o1 := o1) (o2 := ptyOut (k + 1) timed l m) (fun s es hs => ?_) k 0 _ _ r hr
    rw [ho1] at hs
    dsimp only at hs
    split at hs
    · rename_i hr2
      have := hK2 (k + 1) (by omega) s.toNat (by omega)
      rw [show ((s.toNat : Nat) : Int) = s from Int.toNat_of_nonneg hr2.1] at this
      rw [this]
      exact hs
    · cases hs
  · constructor
    · refine H.Way.imp_ (fun u v c he => ?_) (fun s hs => by simpa using hs)
      obtain ⟨u0, u1, es, e, he1, he2, he3, he4⟩ := he
      rw [ho1' u u0 u1] at he1
      obtain rfl := Option.some.inj he1
      exact (hmem u u0 u1 v c).1 ⟨e, he2, he3, he4⟩
    · refine H.Way.imp_ (fun u v c he => ?_) (fun s hs => by simpa using hs)
      have hub : 0 ≤ u ∧ u < (N : Int) := by
        obtain ⟨ov, tr, t, hl, rfl, _⟩ := he
        have := en_facts hn ov tr hl
        exact ⟨this.1, by rw [hpi]; exact this.2.1⟩
      obtain ⟨e, e1, e2, e3⟩ := (hmem u hub.1 hub.2 v c).2 he
      exact ⟨hub.1, hub.2, _, e, ho1' u hub.1 hub.2, e1, e2, e3⟩
theorem first_en {n : Nat} (h : n ≤ 8) : enI (List.replicate n false) false = 0 := by
  have : n = 0 ∨ n = 1 ∨ n = 2 ∨ n = 3 ∨ n = 4 ∨ n = 5 ∨ n = 6 ∨ n = 7 ∨ n = 8 := by omega
  rcases this with rfl | rfl | rfl | rfl | rfl | rfl | rfl | rfl | rfl <;> decide +kernel
end
end Go.Proofs.Ytamljjfhkolflaa.Pure
