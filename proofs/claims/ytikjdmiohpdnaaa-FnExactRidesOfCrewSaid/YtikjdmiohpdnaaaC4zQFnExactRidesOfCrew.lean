import Derived.Test.YtikjdmiohpdnaaaC4zx0
import Derived.Test.YtikjdmiohpdnaaaC4zx1
import Derived.Test.YtikjdmiohpdnaaaC4zx2
import Derived.Test.YtikjdmiohpdnaaaC4zx3
import Derived.Test.YtikjdmiohpdnaaaC4zx4
import Derived.Test.YtikjdmiohpdnaaaC4zx5
import Derived.Test.YtikjdmiohpdnaaaC4zx6
import Derived.Test.YtikjdmiohpdnaaaC4zx7
import Derived.Test.YtikjdmiohpdnaaaC4zx8
import Derived.Test.YtikjdmiohpdnaaaC4zH0
import Derived.Test.YtikjdmiohpdnaaaC4zH1
import Derived.Test.YtikjdmiohpdnaaaC4zQ0
import Derived.Test.YtikjdmiohpdnaaaC4zQ1
import Derived.Test.YtikjdmiohpdnaaaC4zQ2
import Derived.Test.YtikjdmiohpdnaaaC4zQ3
import Derived.Test.YtikjdmiohpdnaaaC4zQ4
import Derived.Test.YtikjdmiohpdnaaaC4zQ5
import Derived.Test.YtikjdmiohpdnaaaC4zQ8
import Derived.Test.YtikjdmiohpdnaaaC4zQ9
import Derived.Test.YtikjdmiohpdnaaaC4zQS
import Derived.Test.YtikjdmiohpdnaaaC4zQG
import Derived.Test.YtikjdmiohpdnaaaC4zQR
import Derived.Test.YtikjdmiohpdnaaaC4zH2
import Derived.Test.YtikjdmiohpdnaaaC4zS
namespace Go.Proofs.Ytikjdmiohpdnaaa.Pure
open Go.Proofs.Ytikjdmiohpdnaaa.Walk Go.RowKit Go.Proofs.Ytikjdmiohpdnaaa.C4 Go.Proofs.Ytikjdmiohpdnaaa.H Go.Proofs.YtikjdmiohpdnaaaW.PrintWords Go.Proofs.YtikjdmiohpdnaaaW.PrintLast Go.Proofs.YtikjdmiohpdnaaaW.PrintMore
set_option linter.unusedVariables false
set_option linter.unusedSimpArgs false
def takes (l : List Int) (rw : List Bool) (m : Int) (g : List Int) : Bool := decide (loadP l g 0 ≤ m) && g.any fun x => rdOf false rw x
def ridesP (l : List Int) (rw : List Bool) (m : Int) (st : List Bool) (b : Bool) : List (List Int) := (grpsF (l.length : Int) (sideP b st 0) []).filter (takes l rw m)
theorem crewS_fold (l : List Int) (rw : List Bool) (m : Int) (k : Nat) : ∀ (gs s : List (List Int)), (∀ g ∈ gs, impl_Crew_carries.f k l rw m g = some (takes l rw m g)) → s.length + gs.length < 1099511627776 → gs.foldlM (crewS k l rw m) s = some (s ++ gs.filter (takes l rw m)) := by
  intro gs
  induction gs with
  | nil => intro s _ _; simp
  | cons g gs ih =>
    intro s h hl
    simp only [List.length_cons] at hl
    rw [List.foldlM_cons]
    have h1 : crewS k l rw m s g = some (if takes l rw m g then s ++ [g] else s) := by
      unfold crewS
      rw [h g (by simp), Option.bind_some]
      cases takes l rw m g with
      | true => simp only [if_true]; unfold pushS; rw [if_pos (by omega)]
      | false => rfl
    rw [h1]
    show List.foldlM (crewS k l rw m) _ gs = _
    rw [ih _ (fun x hx => h x (by simp [hx])) (by split <;> (try simp only [List.length_append, List.length_cons, List.length_nil]) <;> omega)]
    cases ht : takes l rw m g <;> simp [List.filter_cons, ht]
theorem ride_take {l : List Int} {rw : List Bool} {m : Int} {st : List Bool} {b : Bool} {mm : Int} {g : List Int} (hs : st.length = l.length) (hg : g ∈ grpsF mm (sideP b st 0) []) : rideC l rw m st b g = takes l rw m g := by
  obtain ⟨h1, h2, _⟩ := group_of hg
  unfold rideC takes grpC
  have e1 : g.all (inB 0 ((l.length : Int) - 1)) = true := List.all_eq_true.2 fun x hx => by
    have := h1 x hx
    simp only [inB, Bool.and_eq_true, decide_eq_true_eq]
    omega
  have e2 : (g.all fun x => rdOf false st x == b) = true := List.all_eq_true.2 fun x hx => by simp [(h1 x hx).2.2]
  rw [e1, h2, e2]
  simp
theorem crewRides_ev (l : List Int) (rw : List Bool) (m : Int) (st : List Bool) (b : Bool) (hl : l.length ≤ 7) (hr : rw.length = l.length) (hs : st.length = l.length) : Ev (fun k => impl_Crew_rides.f k l rw m st b) (ridesP l rw m st b) := by
  unfold impl_Crew_rides.f
  have h3 := sideP_len b st 0
  refine Ev.bind (side_ev st b b (by omega)) ?_
  simp only [if_pos (show (sideP b st 0).length ≤ 20 by omega)]
  obtain ⟨K, e⟩ := ev_list (f := fun k g => impl_Crew_carries.f k l rw m g) (p := takes l rw m) (grpsF (l.length : Int) (sideP b st 0) []) (fun g hg => carries_ev l rw m g (by have := grpsF_elem _ _ _ g hg; simp at this; omega) (fun x hx => by have := (group_of hg).1 x hx; omega) hr)
  refine ⟨K, fun k hk => ?_⟩
  have := crewS_fold l rw m k (grpsF (l.length : Int) (sideP b st 0) []) [] (e k hk) (by
    have h4 := grpsF_len (l.length : Int) (sideP b st 0) []
    have h6 : 2 ^ (sideP b st 0).length ≤ 2 ^ 7 := Nat.pow_le_pow_right (by omega) (by omega)
    simp; omega)
  unfold ridesP
  simpa using this
theorem loRides_loop1 (l : List Int) (rw : List Bool) (m : Int) (st : List Bool) (b : Bool) (hl : l.length ≤ 7) (hr : rw.length = l.length) (hs : st.length = l.length) : ∀ (r pre acc : List (List Int)), (pre ++ r).length ≤ 1048576 → acc.length + r.length ≤ 1048576 → (∀ g ∈ r, g.length ≤ 1048576) → Ev (fun k => spec_loRides.l1 k acc (pre ++ r) ((pre ++ r).length : Int) (pre.length : Int) l rw m st b) (acc ++ r.filter (rideC l rw m st b)) := by
  intro r
  induction r with
  | nil =>
    intro pre acc hn ha hg
    refine Ev.step (f := fun _ => some _) (fun k => ?_) (Ev.now _)
    simp only [spec_loRides.l1]
    rw [if_neg (nlt_end pre)]
    simp
  | cons g r ih =>
    intro pre acc hn ha hg
    simp only [List.length_cons] at ha
    have he := loCan_ev l rw m st b g (by omega) (hg g (by simp)) hr hs
    have hu : ∀ k, spec_loRides.l1 (k + 1) acc (pre ++ g :: r) ((pre ++ g :: r).length : Int) (pre.length : Int) l rw m st b = (spec_loCan.f k l rw m st b g).bind fun t => (if t = true then (if acc.length < 5864062014805 then (spec_loRides.l1 k (acc ++ [g]) (pre ++ g :: r) ((pre ++ g :: r).length : Int) (wrap64 ((pre.length : Int) + 1)) l rw m st b) else (none)) else (spec_loRides.l1 k acc (pre ++ g :: r) ((pre ++ g :: r).length : Int) (wrap64 ((pre.length : Int) + 1)) l rw m st b)) := by
      intro k
      simp only [spec_loRides.l1]
      rw [if_pos (lt_mid pre g r), if_pos (zle _), if_pos (lt_mid pre g r), rd_L2_mid]
    refine Ev.step hu (Ev.bind he ?_)
    rw [wr_mid pre g r (by omega), app_mid pre g r]
    cases q : rideC l rw m st b g with
    | true =>
      simp only [if_true, if_pos (show acc.length < 5864062014805 by omega)]
      exact ev_eq (ih (pre ++ [g]) (acc ++ [g]) (by simpa using hn) (by simp; omega) (fun y hy => hg y (by simp [hy]))) (by simp [List.filter_cons, q])
    | false =>
      simp only [Bool.false_eq_true, if_false]
      exact ev_eq (ih (pre ++ [g]) acc (by simpa using hn) (by omega) (fun y hy => hg y (by simp [hy]))) (by simp [List.filter_cons, q])
theorem loRides_loop0 (l : List Int) (rw : List Bool) (m : Int) (st : List Bool) (b : Bool) (hl : l.length ≤ 7) (hr : rw.length = l.length) (hs : st.length = l.length) : ∀ (r pre : List Bool) (acc : List Int), pre ++ r = st → acc = sideP b pre 0 → acc ++ sideP b r pre.length = sideP b st 0 → Ev (fun k => spec_loRides.l0 k acc (pre ++ r) ((pre ++ r).length : Int) (pre.length : Int) l rw m st b) (ridesP l rw m st b) := by
  intro r
  induction r with
  | nil =>
    intro pre acc hp _ ha
    simp only [sideP, List.append_nil] at ha
    have h3 := sideP_len b st 0
    have hg := paGroups_ev (acc.length : Int) acc (by rw [ha]; omega) acc.length 0 [] (by omega) (by omega) (by rw [ha]; simp; omega) (by simp)
    have he : begP [] ++ grpsF (acc.length : Int) (acc.drop 0) [] = grpsF (l.length : Int) (sideP b st 0) [] := by
      simp only [begP, List.nil_append, List.drop_zero]
      rw [ha]
      exact grpsF_most _ _ (by simp) (by simp; omega)
    rw [he] at hg
    have h4 := grpsF_len (l.length : Int) (sideP b st 0) []
    have h6 : 2 ^ (sideP b st 0).length ≤ 2 ^ 7 := Nat.pow_le_pow_right (by omega) (by omega)
    refine Ev.step (f := fun k => (spec_paGroups.f k acc ([] : List Int) ((0 : Nat) : Int) (acc.length : Int)).bind fun t391 => (spec_loRides.l1 k ([] : List (List Int)) t391 (t391.length : Int) 0 l rw m st b)) (fun k => ?_) (Ev.bind hg ?_)
    · simp only [spec_loRides.l0]
      rw [if_neg (nlt_end pre)]
      rfl
    · refine ev_eq (loRides_loop1 l rw m st b hl hr hs (grpsF (l.length : Int) (sideP b st 0) []) [] [] (by simp; omega) (by simp; omega) (fun g hg => by have := grpsF_elem _ _ _ g hg; simp at this; omega)) ?_
      unfold ridesP
      rw [List.nil_append]
      exact List.filter_congr fun g hg => ride_take hs hg
  | cons x r ih =>
    intro pre acc hp hacc ha
    have hpl : (pre ++ x :: r).length ≤ 1048576 := by rw [hp]; omega
    have hal : acc.length ≤ 7 := by
      have := sideP_len b pre 0
      have : pre.length ≤ st.length := by rw [← hp]; simp
      rw [hacc]; omega
    have hsn : sideP b (pre ++ [x]) 0 = sideP b pre 0 ++ (if x == b then [(pre.length : Int)] else []) := by
      have gen : ∀ (q : List Bool) (i : Nat), sideP b (q ++ [x]) i = sideP b q i ++ (if x == b then [((i + q.length : Nat) : Int)] else []) := by
        intro q
        induction q with
        | nil => intro i; simp only [List.nil_append, sideP]; split <;> simp
        | cons y q ihq =>
          intro i
          simp only [List.cons_append, sideP, ihq (i + 1), List.length_cons]
          rw [show i + 1 + q.length = i + (q.length + 1) by omega]
          split <;> simp
      have := gen pre 0
      simpa using this
    cases hx : x == b with
    | true =>
      rw [hx] at hsn
      have ha2 : (acc ++ [(pre.length : Int)]) ++ sideP b r (pre ++ [x]).length = sideP b st 0 := by
        rw [← ha]
        simp only [sideP, hx, if_true, List.length_append, List.length_cons, List.length_nil, List.append_assoc, List.singleton_append]
      refine Ev.step (fun k => ?_) (ih (pre ++ [x]) (acc ++ [(pre.length : Int)]) (by rw [← hp]; simp) (by rw [hsn, hacc]; rfl) ha2)
      simp only [spec_loRides.l0]
      rw [if_pos (lt_mid pre x r), if_pos (zle _), if_pos (lt_mid pre x r), rdOf_mid, hx, if_pos rfl, if_pos (by omega), wr_mid pre x r (by omega), app_mid pre x r]
    | false =>
      rw [hx] at hsn
      have ha2 : acc ++ sideP b r (pre ++ [x]).length = sideP b st 0 := by
        rw [← ha]
        simp [sideP, hx]
      refine Ev.step (fun k => ?_) (ih (pre ++ [x]) acc (by rw [← hp]; simp) (by rw [hsn, hacc]; simp) ha2)
      simp only [spec_loRides.l0]
      rw [if_pos (lt_mid pre x r), if_pos (zle _), if_pos (lt_mid pre x r), rdOf_mid, hx, if_neg (by simp), wr_mid pre x r (by omega), app_mid pre x r]
theorem loRides_ev (l : List Int) (rw : List Bool) (m : Int) (st : List Bool) (b : Bool) (hl : l.length ≤ 7) (hr : rw.length = l.length) (hs : st.length = l.length) : Ev (fun k => spec_loRides.f k l rw m st b) (ridesP l rw m st b) := loRides_loop0 l rw m st b hl hr hs st [] [] rfl rfl rfl
theorem loAsked_ev (l : List Int) (rw : List Bool) (m : Int) (st : List Bool) (b : Bool) (hl : l.length ≤ 1048576) (hs : st.length ≤ 1048576) : Ev (fun k => spec_loAsked.f k l rw m st b) (goodC l rw m && stateP l.length st b) := by
  unfold spec_loAsked.f
  refine Ev.bind (loGood_ev l rw m hl) ?_
  cases goodC l rw m with
  | false => exact Ev.now _
  | true =>
    simp only [if_true, Bool.true_and]
    exact Ev.bind (ev_some (show spec_loParty.f l rw m = some (l, 0) from rfl)) (Ev.bind (paState_ev l 0 st b hs) (Ev.now _))
theorem crewHas_ev (l : List Int) (rw : List Bool) (m : Int) (st : List Bool) (b : Bool) (hs : st.length ≤ 1048576) : Ev (fun k => impl_Crew_hasState.f k l rw m st b) (goodC l rw m && stateP l.length st b) := by
  unfold impl_Crew_hasState.f
  refine Ev.bind (ev_some (isCrew_eq l rw m)) ?_
  cases goodC l rw m with
  | false => exact Ev.now _
  | true =>
    simp only [if_true, Bool.true_and]
    exact Ev.bind (isStateOf_ev l.length st b hs) (Ev.now _)
theorem goodC_seven {l : List Int} {rw : List Bool} {m : Int} (h : goodC l rw m = true) : l.length ≤ 7 := by
  unfold goodC at h
  simp only [Bool.and_eq_true, inB, decide_eq_true_eq] at h
  omega
def FnExactRidesOfCrew_val (l : List Int) (rw : List Bool) (m : Int) (st : List Bool) (b : Bool) : List (List Int) × Bool := if goodC l rw m && stateP l.length st b then (ridesP l rw m st b, true) else ([], false)
theorem spec_FnExactRidesOfCrew_ev (l : List Int) (rw : List Bool) (m : Int) (st : List Bool) (b : Bool) (hl : l.length ≤ 1048576) (hr : rw.length ≤ 1048576) (hs : st.length ≤ 1048576) : Ev (fun k => spec_RidesOfCrew.f k l rw m st b) (FnExactRidesOfCrew_val l rw m st b) := by
  unfold spec_RidesOfCrew.f FnExactRidesOfCrew_val
  refine Ev.bind (loAsked_ev l rw m st b hl hs) ?_
  cases hq : (goodC l rw m && stateP l.length st b) with
  | false => exact Ev.now _
  | true =>
    simp only [Bool.and_eq_true] at hq
    simp only [if_true]
    exact Ev.bind (loRides_ev l rw m st b (goodC_seven hq.1) (goodC_in hq.1).2.2 (stateP_len hq.2)) (Ev.now _)
theorem impl_FnExactRidesOfCrew_ev (l : List Int) (rw : List Bool) (m : Int) (st : List Bool) (b : Bool) (hl : l.length ≤ 1048576) (hr : rw.length ≤ 1048576) (hs : st.length ≤ 1048576) : Ev (fun k => impl_RidesOfCrew.f k l rw m st b) (FnExactRidesOfCrew_val l rw m st b) := by
  unfold impl_RidesOfCrew.f FnExactRidesOfCrew_val
  refine Ev.bind (crewHas_ev l rw m st b hs) ?_
  cases hq : (goodC l rw m && stateP l.length st b) with
  | false => exact Ev.now _
  | true =>
    simp only [Bool.and_eq_true] at hq
    simp only [if_true]
    exact Ev.bind (crewRides_ev l rw m st b (goodC_seven hq.1) (goodC_in hq.1).2.2 (stateP_len hq.2)) (Ev.now _)
theorem FnExactRidesOfCrew_small (l : List Int) (rw : List Bool) (m : Int) (st : List Bool) (b : Bool) (hl : l.length ≤ 1048576) (hr : rw.length ≤ 1048576) (hs : st.length ≤ 1048576) : n2 (FnExactRidesOfCrew_val l rw m st b).1 ≤ 1048576 := by
  unfold FnExactRidesOfCrew_val
  split
  · rename_i hq
    simp only [Bool.and_eq_true] at hq
    have h1 := goodC_seven hq.1
    have h2 := stateP_len hq.2
    have h3 := sideP_len b st 0
    have h4 := grpsF_len (l.length : Int) (sideP b st 0) []
    have h7 := List.length_filter_le (takes l rw m) (grpsF (l.length : Int) (sideP b st 0) [])
    have h5 := n2_le 8 (ridesP l rw m st b) (fun g hg => by have := grpsF_elem (l.length : Int) _ _ g (List.mem_filter.1 hg).1; simp at this; omega)
    have h6 : 2 ^ (sideP b st 0).length ≤ 2 ^ 8 := Nat.pow_le_pow_right (by omega) (by omega)
    unfold ridesP at h5 ⊢
    simp only at h5 ⊢
    omega
  · simp [n2, szSum]
theorem FnExactRidesOfCrew_all (A0_0 : Option Addr) (c0_0 : Nat) (l0_0 : List Int) (A0_1 : Option Addr) (c0_1 : Nat) (l0_1 : List Bool) (a0_2 : Int) (A1_0 : Option Addr) (c1_0 : Nat) (l1_0 : List Bool) (a1_1 : Bool) (w : World) (hr0_0 : Kd.C (Kd.int .i64) w A0_0 l0_0.length l0_0) (hc0_0 : l0_0.length ≤ c0_0) (hr0_1 : Kd.C Kd.bool w A0_1 l0_1.length l0_1) (hc0_1 : l0_1.length ≤ c0_1) (hr1_0 : Kd.C Kd.bool w A1_0 l1_0.length l1_0) (hc1_0 : l1_0.length ≤ c1_0) (g0_0 : goodL goodI l0_0) (g0_1 : goodL (fun _ => True) l0_1) (g0_2 : goodI a0_2) (g1_0 : goodL (fun _ => True) l1_0) :
    Calls Try.prog 6 #[.agg #[.slice A0_0 l0_0.length c0_0, .slice A0_1 l0_1.length c0_1, .int .i64 a0_2], .agg #[.slice A1_0 l1_0.length c1_0, .bool a1_1]] w fun e w' => e = .returned (.bool true) ∧ Below w.heap.size w w' := by
  obtain ⟨u0, hu0, hc⟩ := szCrew_cases l0_0 l0_1 a0_2 1048576 (by omega) (by omega) g0_0.1 g0_1.1
  replace hu0 := ev_some hu0
  rcases hc with hc | ⟨b0, d0⟩
  · obtain ⟨Kx, fx⟩ := hu0
    exact FnExactRidesOfCrew_short0 _ _ _ _ _ _ _ _ _ _ _ w hr0_0 hc0_0 hr0_1 hc0_1 hr1_0 hc1_0  _ (fx _ (Nat.le_refl _)) hc
  have nu0 : ¬ u0 < 0 := by omega
  obtain ⟨u1, hu1, hc⟩ := szState_cases l1_0 a1_1 u0 b0 (by omega) g1_0.1
  replace hu1 := ev_some hu1
  rcases hc with hc | ⟨b1, d1⟩
  · obtain ⟨Ky0, fy0⟩ := hu0
    obtain ⟨Kx, fx⟩ := hu1
    exact FnExactRidesOfCrew_short1 _ _ _ _ _ _ _ _ _ _ _ w hr0_0 hc0_0 hr0_1 hc0_1 hr1_0 hc1_0 _ (fy0 _ (Nat.le_refl _)) nu0 _ (fx _ (Nat.le_refl _)) hc
  have nu1 : ¬ u1 < 0 := by omega
  have z0_0 : List.length l0_0 ≤ 1048576 := by omega
  have z0_1 : List.length l0_1 ≤ 1048576 := by omega
  have z1_0 : List.length l1_0 ≤ 1048576 := by omega
  have et0 := toCrew_ev l0_0 l0_1 a0_2 z0_0 z0_1
  have et1 := toState_ev l1_0 a1_1 z1_0
  have es := spec_FnExactRidesOfCrew_ev l0_0 l0_1 a0_2 l1_0 a1_1 z0_0 z0_1 z1_0
  have ei := impl_FnExactRidesOfCrew_ev l0_0 l0_1 a0_2 l1_0 a1_1 z0_0 z0_1 z1_0
  have hsm := FnExactRidesOfCrew_small l0_0 l0_1 a0_2 l1_0 a1_1 z0_0 z0_1 z1_0
  generalize FnExactRidesOfCrew_val l0_0 l0_1 a0_2 l1_0 a1_1 = rr at *
  obtain ⟨r0, r1⟩ := rr
  dsimp only at hsm
  have s0 := hsm
  have eq0 : Ev (fun k => laws_eqIntSS.f k r0 r0) true := ev_eq (eqIntSS_ev r0 r0 s0) (decide_eq_true rfl)
  have ea0 : Ev (fun k => laws_eqCrew.f k l0_0 l0_1 a0_2 l0_0 l0_1 a0_2) true := ev_eq (eqCrew_ev l0_0 l0_1 a0_2 l0_0 l0_1 a0_2 z0_0 z0_1) (decide_eq_true rfl)
  have ea1 : Ev (fun k => laws_eqState.f k l1_0 a1_1 l1_0 a1_1) true := ev_eq (eqState_ev l1_0 a1_1 l1_0 a1_1 z1_0) (decide_eq_true rfl)
  have ema0 := markCrew_ev l0_0 l0_1 a0_2 (1) z0_0 z0_1
  have bma0_0 := mkS_bound l0_0 (1) (by omega) (by omega)
  have na0_0 : ¬ (mkS l0_0 (1)).1 < 0 := by omega
  have bma0_1 := mkB_bound l0_1 ((mkS l0_0 (1)).1) (by omega) (by omega)
  have na0_1 : ¬ (mkB l0_1 ((mkS l0_0 (1)).1)).1 < 0 := by omega
  have ema1 := markState_ev l1_0 a1_1 ((mkB l0_1 ((mkS l0_0 (1)).1)).1) z1_0
  have bma1_0 := mkB_bound l1_0 ((mkB l0_1 ((mkS l0_0 (1)).1)).1) (by omega) (by omega)
  have na1_0 : ¬ (mkB l1_0 ((mkB l0_1 ((mkS l0_0 (1)).1)).1)).1 < 0 := by omega
  have emr0 := ev_some (markIntSS_ev r0 (1))
  have bmr0 := mkSS_bound r0 (1) (by omega) (by omega)
  have nr0 : ¬ (mkSS r0 (1)).1 < 0 := by omega
  have eh0 := heldIntSS_ev r0 (1) (by omega) (by omega) s0
  clear bma0_0 bma0_1 bma1_0 bmr0
  obtain ⟨Khu0, fhu0⟩ := hu0
  obtain ⟨Khu1, fhu1⟩ := hu1
  obtain ⟨Ket0, fet0⟩ := et0
  obtain ⟨Ket1, fet1⟩ := et1
  obtain ⟨Kes, fes⟩ := es
  obtain ⟨Kei, fei⟩ := ei
  obtain ⟨Keq0, feq0⟩ := eq0
  obtain ⟨Kea0, fea0⟩ := ea0
  obtain ⟨Kea1, fea1⟩ := ea1
  obtain ⟨Kema0, fema0⟩ := ema0
  obtain ⟨Kema1, fema1⟩ := ema1
  obtain ⟨Kemr0, femr0⟩ := emr0
  obtain ⟨Keh0, feh0⟩ := eh0
  exact FnExactRidesOfCrew_walk _ _ _ _ _ _ _ _ _ _ _ _ _ _ _ _ _ _ _ _ _ _ Ket0 Ket1 Kes Kei Keq0 Kea0 Kea1 Kema0 Kema1 Keh0 w hr0_0 hc0_0 hr0_1 hc0_1 hr1_0 hc1_0  (fhu0 _ (Nat.le_refl _)) nu0 (fhu1 _ (Nat.le_refl _)) nu1 (fet0 _ (Nat.le_refl _)) (fet1 _ (Nat.le_refl _)) (fes _ (Nat.le_refl _)) (fei _ (Nat.le_refl _)) (feq0 _ (Nat.le_refl _)) (fea0 _ (Nat.le_refl _)) (fea1 _ (Nat.le_refl _)) (fema0 _ (Nat.le_refl _)) (fema1 _ (Nat.le_refl _)) na1_0 (femr0 _ (Nat.le_refl _)) (feh0 _ (Nat.le_refl _)) nr0
end Go.Proofs.Ytikjdmiohpdnaaa.Pure
