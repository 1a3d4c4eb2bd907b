import Derived.Test.YtamljjfhkolflaaC3zx0
import Derived.Test.YtamljjfhkolflaaC3zx1
import Derived.Test.YtamljjfhkolflaaC3zx6
import Derived.Test.YtamljjfhkolflaaC3zx10
import Derived.Test.YtamljjfhkolflaaC3zAl
namespace Go.Proofs.Ytamljjfhkolflaa.C3
open Go.RowKit Go.Proofs.YtamljjfhkolflaaW.PrintWords Go.Proofs.YtamljjfhkolflaaW.PrintLast Go.Proofs.YtamljjfhkolflaaW.PrintMore Go.Proofs.Ytamljjfhkolflaa.H
attribute [local go_sem] max2_int min2_int max_two min_two max_three min_three max_four min_four
set_option linter.unusedVariables false
set_option linter.unusedSimpArgs false
def impl_FewestTrips.f (k : Nat) (l0_0 : List Int) (a0_1 : Int) : Option (Int × Bool) := (impl_IsParty.f l0_0 a0_1).bind fun t => if t = true then ((impl_Party_costs.f k l0_0 a0_1 false).bind fun p => if p.2 = true then some (rd p.1 0, true) else some (0, false)) else some (0, false)
set_option maxHeartbeats 2000000 in
set_option maxRecDepth 100000 in
theorem impl_FewestTrips.calls (k : Nat) (A0_0 : Option Addr) (c0_0 : Nat) (l0_0 : List Int) (a0_1 : Int) (r1 : Int) (r2 : Bool) (w : World) (hr0_0 : Kd.C (Kd.int .i64) w A0_0 l0_0.length l0_0) (hc0_0 : l0_0.length ≤ c0_0) (h : impl_FewestTrips.f k l0_0 a0_1 = some (r1, r2)) :
  Calls Try.prog 24 #[.agg #[.slice A0_0 l0_0.length c0_0, .int .i64 a0_1]] w fun e w' => e = .returned (.tuple #[.int .i64 r1, .bool r2]) ∧ Below w.heap.size w w' := by
 have hu := Try.underlying28
 have hug := Try.underlying67
 unfold impl_FewestTrips.f at h
 obtain ⟨t, ht, h⟩ := Option.bind_eq_some_iff.mp h
 have HT := am' (fun (W : World) (hb : Below w.heap.size w W) => impl_IsParty.calls A0_0 c0_0 l0_0 a0_1 t W (Kd.C_below hr0_0 hb) hc0_0 ht)
 have HX := am' (heap_alloc_new w (.cells #[.slice A0_0 l0_0.length c0_0, .int .i64 a0_1] 28))
 clear ht; have HBX := am' (ba' (Below.refl w.heap.size w) (.cells #[.slice A0_0 l0_0.length c0_0, .int .i64 a0_1] 28))
 cases t with
 | false =>
  simp only [Bool.false_eq_true, if_false, Option.some.injEq, Prod.mk.injEq] at h
  obtain ⟨rfl, rfl⟩ := h
  clear hr0_0; go_enter Try.func24, Try.ntmps24
  go_wp2_with fail
  refine (HT.out _ HBX.out).mono ?_
  rintro e w2 ⟨rfl, hb⟩
  have HB := am' (below_step HBX.out hb)
  clear hb; go_wp2
  go_ret2
  exact ⟨rfl, HB.out⟩
 | true =>
  simp only [if_true] at h
  obtain ⟨⟨r, ok⟩, hc, h⟩ := Option.bind_eq_some_iff.mp h
  have HC := am' (fun (W : World) (hb : Below w.heap.size w W) => impl_Party_costs.calls k A0_0 c0_0 l0_0 a0_1 false r ok W (Kd.C_below hr0_0 hb) hc0_0 hc)
  clear hc hr0_0; cases ok with
  | false =>
   simp only [Bool.false_eq_true, if_false, Option.some.injEq, Prod.mk.injEq] at h
   obtain ⟨rfl, rfl⟩ := h
   go_enter Try.func24, Try.ntmps24
   go_wp2_with fail
   refine (HT.out _ HBX.out).mono ?_
   rintro e w1 ⟨rfl, hb0⟩
   have HX2 := am' (blk_below HX.out hb0)
   have HBX := am' (below_step HBX.out hb0)
   clear hb0; have x10 : w1.cell? ⟨w.heap.size, 0, none⟩ = some (.slice A0_0 l0_0.length c0_0) := (blk_cell HX2.out 0).trans rfl
   have x11 : w1.cell? ⟨w.heap.size, 1, none⟩ = some (.int .i64 a0_1) := (blk_cell HX2.out 1).trans rfl
   go_wp2_with fail
   refine (HC.out _ HBX.out).mono ?_
   rintro e w2 ⟨pn, pp, pt, v, rfl, hpn, hpp, hpt, hr, hl, hb⟩
   obtain ⟨Av, cv, rfl⟩ := Kd.R_slice hr
   have HB := am' (below_step HBX.out hb)
   clear hpn hpp hpt hr hl hb; go_wp2
   go_ret2
   exact ⟨rfl, ba' HB.out _⟩
  | true =>
   simp only [if_true, Option.some.injEq, Prod.mk.injEq] at h
   obtain ⟨rfl, rfl⟩ := h
   obtain ⟨dv, hdv⟩ : ∃ x, x = rd r 0 := ⟨_, rfl⟩
   rw [← hdv]
   have HDV := am' hdv
   clear hdv; go_enter Try.func24, Try.ntmps24
   go_wp2_with fail
   refine (HT.out _ HBX.out).mono ?_
   rintro e w1 ⟨rfl, hb0⟩
   have HX2 := am' (blk_below HX.out hb0)
   have HBX := am' (below_step HBX.out hb0)
   clear hb0; have x10 : w1.cell? ⟨w.heap.size, 0, none⟩ = some (.slice A0_0 l0_0.length c0_0) := (blk_cell HX2.out 0).trans rfl
   have x11 : w1.cell? ⟨w.heap.size, 1, none⟩ = some (.int .i64 a0_1) := (blk_cell HX2.out 1).trans rfl
   go_wp2_with fail
   refine (HC.out _ HBX.out).mono ?_
   rintro e w2 ⟨pn, pp, pt, v, rfl, hpn, hpp, hpt, hr, hl, hb⟩
   have hq := hl (by first | rfl | trivial)
   clear hl; obtain ⟨gd, cd, hv, _⟩ := Kd.R_form hr (by have h1 := (pow_le8 hq.2).1; have h2 := hq.1; omega)
   subst hv; have hl0 : (0 : Int) < (r.length : Int) := by have h1 := (pow_le8 hq.2).1; have h2 := hq.1; omega
   have hx0 : w2.cell? ⟨gd, 0, none⟩ = some (.int .i64 dv) := by
    have h1 := (Kd.R_celln 0 hr 0 (by omega) hl0).1
    rw [HDV.out]; simpa [rd, rdOf] using h1
   have hy0 : ∀ o, (w2.alloc o).cell? ⟨gd, 0, none⟩ = some (.int .i64 dv) := fun o => ((ba' (Below.refl w2.heap.size w2) o).cell (bl' w2 _ hx0)).trans hx0
   have HB := am' (below_step HBX.out hb)
   clear hpn hpp hpt hr hq hb; go_wp2
   go_ret2
   exact ⟨rfl, ba' HB.out _⟩
mutual
def laws_FnExactFewestTrips.j0 : Nat → List Int → Int → Option (Bool)
 | 0, _, _ => none
 | k + 1, x276000, x276001 => (laws_toParty.f k x276000 x276001).bind fun bt277 => ((spec_FewestTrips.f k bt277.1 bt277.2).bind fun bt281 => ((laws_toParty.f k x276000 x276001).bind fun bt283 => ((impl_FewestTrips.f k bt283.1 bt283.2).bind fun bt288 => (if bt288.1 = bt281.1 then (laws_FnExactFewestTrips.j1 k (bt288.2 != bt281.2) x276000 x276001 bt283.1 bt283.2) else (laws_FnExactFewestTrips.j1 k true x276000 x276001 bt283.1 bt283.2)))))
def laws_FnExactFewestTrips.j1 : Nat → Bool → List Int → Int → List Int → Int → Option (Bool)
 | 0, _, _, _, _, _ => none
 | k + 1, x34, x276000, x276001, x288000, x288001 => if x34 = true then (some false) else (laws_FnExactFewestTrips.j2 k x276000 x276001 x288000 x288001)
def laws_FnExactFewestTrips.j2 : Nat → List Int → Int → List Int → Int → Option (Bool)
 | 0, _, _, _, _ => none
 | k + 1, x276000, x276001, x288000, x288001 => (laws_toParty.f k x276000 x276001).bind fun bt290 => ((laws_eqParty.f k x288000 x288001 bt290.1 bt290.2).bind fun t294 => (if t294 = true then (some true) else (some false)))
end
def laws_FnExactFewestTrips.f (k : Nat) (l0_0 : List Int) (a0_1 : Int) : Option (Bool) := (laws_szParty.f l0_0 a0_1 1048576).bind fun t276 => (if t276 < 0 then (some true) else (laws_FnExactFewestTrips.j0 k l0_0 a0_1))
set_option maxHeartbeats 8000000 in
set_option maxRecDepth 100000 in
theorem laws_FnExactFewestTrips.calls (k : Nat) (A0_0 : Option Addr) (c0_0 : Nat) (l0_0 : List Int) (a0_1 : Int) (r : Bool) (w : World) (hr0_0 : Kd.C (Kd.int .i64) w A0_0 l0_0.length l0_0) (hc0_0 : l0_0.length ≤ c0_0) (h : laws_FnExactFewestTrips.f k l0_0 a0_1 = some r) :
  Calls Try.prog 5 #[.agg #[.slice A0_0 l0_0.length c0_0, .int .i64 a0_1]] w fun e w' => e = .returned (.bool r) ∧ Below w.heap.size w w' := by
 have hu24 := Try.underlying24
 have hu28 := Try.underlying28
 have HR0_0 := am' hr0_0
 have HC0_0 := am' hc0_0
 clear hr0_0 hc0_0; have HB := am' (Below.refl w.heap.size w)
 have H : ((laws_szParty.f l0_0 a0_1 1048576).bind fun t276 => (if t276 < 0 then (some true) else (laws_FnExactFewestTrips.j0 k l0_0 a0_1))) = some r := h
 clear h; replace H := Option.bind_eq_some_iff.mp H
 obtain ⟨t276, A20, H⟩ := H
 replace H : (if t276 < 0 then (some true) else (laws_FnExactFewestTrips.j0 k l0_0 a0_1)) = some r := H
 have A2 := am' A20
 clear A20; have HC3 := am' H
 clear H; go_enter Try.func5, Try.ntmps5
 go_upto_if 13 with (first | ((with_reducible refine gate_dst (N := 1) rfl ?_); refine box_event ?hg (N := 1) ?hd (cs := #[.slice A0_0 l0_0.length c0_0, .int .i64 a0_1]) (t := 24) ?hr ?_; (case hd => rfl); (case hg => rfl); (case hr => first | (go_simp; done) | (go_simp; rfl)); intro gb275 hg w4 hbox hb; have n0_ := am' (below_step (by repeat (first | (with_reducible first | exact HB.out | apply ba' | apply bd' | apply be') | exact HB.out)) hb); have n1_ := am' (hbox); have n2_ := am' ((by rw [hg]; exact (below_size (by repeat (first | (with_reducible first | exact HB.out | apply ba' | apply bd' | apply be') | exact HB.out))) : w.heap.size ≤ gb275)); have n3_ := am' ((by rw [hg]; exact (below_size (by repeat (first | (with_reducible first | exact HB.out | apply ba' | apply bd' | apply be') | exact HB.out))) : w.heap.size ≤ gb275)); clear HB; have HB := n0_; have BK275 := n1_; have GW275 := n2_; have GE275 := n3_; clear n0_ n1_ n2_ n3_; clear hb hbox hg; have hcz5_0 : w4.cell? ⟨gb275, 0, none⟩ = some (.slice A0_0 l0_0.length c0_0) := (blk_cell BK275.out 0).trans rfl; have hcz5_1 : w4.cell? ⟨gb275, 1, none⟩ = some (.int .i64 a0_1) := (blk_cell BK275.out 1).trans rfl; have hfz5_0 := blk_frozen BK275.out 0; have hfz5_1 := blk_frozen BK275.out 1) | ((with_reducible refine gate_callee (f := 16) rfl ?_); refine goesL_ (some 11) rfl rfl Try.func16 (by kernel_rfl) rfl #[.agg #[.slice A0_0 l0_0.length c0_0, .int .i64 a0_1], .int .i64 1048576] rfl (by (try simp only [List.map_toArray, List.map_cons, List.map_nil]); first | done | rfl | (simp only [List.length_drop, List.length_take]; rfl)) ?_; (with_reducible refine (laws_szParty.calls _ _ l0_0 a0_1 1048576 t276 _ ?side1 ?side2 A2.out).mono ?_); (case side1 => repeat (first | exact (Kd.C_below HR0_0.out HB.out) | (with_reducible refine ca' ?_ _) | (with_reducible refine cn' ?_ _) | (with_reducible refine cd' ?_))); (case side2 => exact HC0_0.out); rintro e w6 ⟨rfl, hb⟩; refine ⟨_, rfl, ?_⟩; have n0_ := am' (blk_below (g := gb275) (o := .cells #[.slice A0_0 l0_0.length c0_0, .int .i64 a0_1] 24 (0, 0)) (by (with_reducible repeat (first | refine kn' ?_ _ | refine kd' ?_ | refine ka' ?_ _)); exact BK275.out) hb); have n1_ := am' (below_step (by repeat (first | (with_reducible first | exact HB.out | apply ba' | apply bd' | apply be' | refine bs' ?_ GE275.out) | exact HB.out)) hb); clear BK275; clear HB; have BK275 := n0_; have HB := n1_; clear n0_ n1_; (try clear hb); (try clear hb2); (try clear hk); (try clear hi)))
 (try simp only [Act.put, sa', sb', sc'])
 go_cut [] (fun wc => ∃ (kq : Nat), Aside0 (laws_FnExactFewestTrips.j0 kq l0_0 a0_1 = some r) ∧ Aside0 (kq ≤ k) ∧ Aside0 (wc.heap[gb275]? = some (.cells #[(.slice A0_0 l0_0.length c0_0), .int .i64 a0_1] 24 (0, 0))) ∧ Aside0 (Below w.heap.size w wc))
 case first =>
  have H := HC3.out
  clear HC3; by_cases c7 : t276 < 0
  ·
   rw [if_pos c7] at H; have c7b0 : decide (t276 < 0) = true := decide_eq_true c7
   clear c7; (first | rw [c7b0] | (simp only [i64_w, i32_w]; rw [c7b0]) | skip)
   obtain rfl := Option.some.inj H
   go_wp2
   go_ret
   exact ⟨by first | rfl | (simp [errW_none, errW_some] <;> rfl) | (simp [*, errW_none, errW_some] <;> rfl), by repeat (first | (with_reducible first | exact HB.out | apply ba' | apply bd' | apply be' | refine bs' ?_ GE275.out) | exact HB.out)⟩
  ·
   rw [if_neg c7] at H; have c7b0 : decide (t276 < 0) = false := decide_eq_false c7
   clear c7; (first | rw [c7b0] | (simp only [i64_w, i32_w]; rw [c7b0]) | skip)
   have H' := am' H
   clear H; go_wp2
   go_meet
   case rel => exact ⟨_, H', ⟨by first | omega | exact Nat.le_refl _⟩, ⟨by (with_reducible repeat (first | refine kn' ?_ _ | refine kd' ?_ | refine ka' ?_ _)); exact BK275.out⟩, ⟨by repeat (first | (with_reducible first | exact HB.out | apply ba' | apply bd' | apply be' | refine bs' ?_ GE275.out) | exact HB.out)⟩⟩
 case rest =>
  clear HC3; try clear c1
  try clear p2
  try clear c5
  try clear c7
  try clear c7b0
  try clear hcz5_0
  try clear hcz5_1
  try clear hfz5_0
  try clear hfz5_1
  obtain ⟨kq, HA, HJ2, BK275, HB⟩ := hcut
  cases kq with
  | zero => exact absurd HA.out (by simp [laws_FnExactFewestTrips.j0])
  | succ kj2 =>
   have H := HA.out
   clear HA; simp only [laws_FnExactFewestTrips.j0] at H
   replace H := Option.bind_eq_some_iff.mp H
   obtain ⟨⟨t277, t280⟩, A80, H⟩ := H
   replace H : ((spec_FewestTrips.f kj2 t277 t280).bind fun bt281 => ((laws_toParty.f kj2 l0_0 a0_1).bind fun bt283 => ((impl_FewestTrips.f kj2 bt283.1 bt283.2).bind fun bt288 => (if bt288.1 = bt281.1 then (laws_FnExactFewestTrips.j1 kj2 (bt288.2 != bt281.2) l0_0 a0_1 bt283.1 bt283.2) else (laws_FnExactFewestTrips.j1 kj2 true l0_0 a0_1 bt283.1 bt283.2))))) = some r := H
   have A8 := am' A80
   clear A80; replace H := Option.bind_eq_some_iff.mp H
   obtain ⟨⟨t281, t282⟩, A90, H⟩ := H
   replace H : ((laws_toParty.f kj2 l0_0 a0_1).bind fun bt283 => ((impl_FewestTrips.f kj2 bt283.1 bt283.2).bind fun bt288 => (if bt288.1 = t281 then (laws_FnExactFewestTrips.j1 kj2 (bt288.2 != t282) l0_0 a0_1 bt283.1 bt283.2) else (laws_FnExactFewestTrips.j1 kj2 true l0_0 a0_1 bt283.1 bt283.2)))) = some r := H
   have A9 := am' A90
   clear A90; replace H := Option.bind_eq_some_iff.mp H
   obtain ⟨⟨t283, t286⟩, A100, H⟩ := H
   replace H : ((impl_FewestTrips.f kj2 t283 t286).bind fun bt288 => (if bt288.1 = t281 then (laws_FnExactFewestTrips.j1 kj2 (bt288.2 != t282) l0_0 a0_1 t283 t286) else (laws_FnExactFewestTrips.j1 kj2 true l0_0 a0_1 t283 t286))) = some r := H
   have A10 := am' A100
   clear A100; replace H := Option.bind_eq_some_iff.mp H
   obtain ⟨⟨t288, t289⟩, A110, H⟩ := H
   replace H : (if t288 = t281 then (laws_FnExactFewestTrips.j1 kj2 (t289 != t282) l0_0 a0_1 t283 t286) else (laws_FnExactFewestTrips.j1 kj2 true l0_0 a0_1 t283 t286)) = some r := H
   have A11 := am' A110
   clear A110; have HC12 := am' H
   clear H; have hcz13_0 : wc.cell? ⟨gb275, 0, none⟩ = some (.slice A0_0 l0_0.length c0_0) := (blk_cell BK275.out 0).trans rfl
   have hcz13_1 : wc.cell? ⟨gb275, 1, none⟩ = some (.int .i64 a0_1) := (blk_cell BK275.out 1).trans rfl
   have hfz13_0 := blk_frozen BK275.out 0
   have hfz13_1 := blk_frozen BK275.out 1
   go_upto_region 8 with (first | ((with_reducible refine gate_callee (f := 18) rfl ?_); refine goesL_ (some 16) rfl rfl Try.func18 (by kernel_rfl) rfl #[.agg #[.slice A0_0 l0_0.length c0_0, .int .i64 a0_1]] rfl (by (try simp only [List.map_toArray, List.map_cons, List.map_nil]); first | done | rfl | (simp only [List.length_drop, List.length_take]; rfl)) ?_; (with_reducible refine (laws_toParty.calls kj2 _ _ l0_0 a0_1 t277 t280 _ ?side1 ?side2 A8.out).mono ?_); (case side1 => repeat (first | exact (Kd.C_below HR0_0.out HB.out) | (with_reducible refine ca' ?_ _) | (with_reducible refine cn' ?_ _) | (with_reducible refine cd' ?_))); (case side2 => exact HC0_0.out); rintro e w14 ⟨v278, rfl, ho0, hb⟩; refine ⟨_, rfl, ?_⟩; obtain ⟨D295_, hdl_, hdg_⟩ := dlt_of hb; have D295_lt := am' hdl_; have D295_ge := am' hdg_; clear hdl_ hdg_; have n0_ := am' (Kd.R_lower (Kd.R_dge ho0 D295_ge.out) (below_size (by repeat (first | (with_reducible first | exact HB.out | apply ba' | apply bd' | apply be' | refine bs' ?_ GE275.out) | exact HB.out)))); have n1_ := am' (blk_below (g := gb275) (o := .cells #[.slice A0_0 l0_0.length c0_0, .int .i64 a0_1] 24 (0, 0)) (by (with_reducible repeat (first | refine kn' ?_ _ | refine kd' ?_ | refine ka' ?_ _)); exact BK275.out) hb); have n2_ := am' (below_step (by repeat (first | (with_reducible first | exact HB.out | apply ba' | apply bd' | apply be' | refine bs' ?_ GE275.out) | exact HB.out)) hb); clear BK275; clear HB; have HO279 := n0_; have BK275 := n1_; have HB := n2_; clear n0_ n1_ n2_; (try clear hb); (try clear hb2); (try clear hk); (try clear hi); (try clear ho0); obtain ⟨Ao15, co15, eo15⟩ := Kd.R_slice HO279.out; subst eo15) | ((with_reducible refine gate_callee (f := 23) rfl ?_); refine goesL_ (some 17) rfl rfl Try.func23 (by kernel_rfl) rfl #[.agg #[.slice Ao15 t277.length co15, .int .i64 t280]] rfl (by (try simp only [List.map_toArray, List.map_cons, List.map_nil]); first | done | rfl | (simp only [List.length_drop, List.length_take]; rfl)) ?_; (with_reducible refine (spec_FewestTrips.calls kj2 _ _ t277 t280 t281 t282 _ ?side1 ?side2 A9.out).mono ?_); (case side1 => repeat (first | exact (Kd.R_reads' HO279.out).2.2 | (with_reducible refine ca' ?_ _) | (with_reducible refine cn' ?_ _) | (with_reducible refine cd' ?_))); (case side2 => exact (Kd.R_reads' HO279.out).2.1); rintro e w16 ⟨rfl, hb⟩; refine ⟨_, rfl, ?_⟩; have n0_ := am' (Kd.R_below (by (with_reducible repeat (first | apply ra' | apply rn' | apply rw')); exact HO279.out) hb); have n1_ := am' (blk_below (g := gb275) (o := .cells #[.slice A0_0 l0_0.length c0_0, .int .i64 a0_1] 24 (0, 0)) (by (with_reducible repeat (first | refine kn' ?_ _ | refine kd' ?_ | refine ka' ?_ _)); exact BK275.out) hb); have n2_ := am' (below_step (by repeat (first | (with_reducible first | exact HB.out | apply ba' | apply bd' | apply be' | refine bs' ?_ GE275.out) | exact HB.out)) hb); clear HO279; clear BK275; clear HB; have HO279 := n0_; have BK275 := n1_; have HB := n2_; clear n0_ n1_ n2_; (try clear hb); (try clear hb2); (try clear hk); (try clear hi); have hcz17_0 : w16.cell? ⟨gb275, 0, none⟩ = some (.slice A0_0 l0_0.length c0_0) := (blk_cell BK275.out 0).trans rfl; have hcz17_1 : w16.cell? ⟨gb275, 1, none⟩ = some (.int .i64 a0_1) := (blk_cell BK275.out 1).trans rfl; have hfz17_0 := blk_frozen BK275.out 0; have hfz17_1 := blk_frozen BK275.out 1) | ((with_reducible refine gate_callee (f := 18) rfl ?_); refine goesL_ (some 21) rfl rfl Try.func18 (by kernel_rfl) rfl #[.agg #[.slice A0_0 l0_0.length c0_0, .int .i64 a0_1]] rfl (by (try simp only [List.map_toArray, List.map_cons, List.map_nil]); first | done | rfl | (simp only [List.length_drop, List.length_take]; rfl)) ?_; (with_reducible refine (laws_toParty.calls kj2 _ _ l0_0 a0_1 t283 t286 _ ?side1 ?side2 A10.out).mono ?_); (case side1 => repeat (first | exact (Kd.C_below HR0_0.out HB.out) | (with_reducible refine ca' ?_ _) | (with_reducible refine cn' ?_ _) | (with_reducible refine cd' ?_))); (case side2 => exact HC0_0.out); rintro e w18 ⟨v284, rfl, ho0, hb⟩; refine ⟨_, rfl, ?_⟩; obtain ⟨D296_, hdl_, hdg_⟩ := dlt_of hb; have D296_lt := am' hdl_; have D296_ge := am' hdg_; clear hdl_ hdg_; have n0_ := am' (Kd.R_elder' (Kd.R_dlt (by (with_reducible repeat (first | apply ra' | apply rn' | apply rw')); exact HO279.out) D296_lt.out) (Kd.R_base ho0) hb); have n1_ := am' (Kd.R_lower (Kd.R_new' (Kd.R_dge ho0 D296_ge.out) (Kd.R_lt (by (with_reducible repeat (first | apply ra' | apply rn' | apply rw')); exact HO279.out))) (below_size (by repeat (first | (with_reducible first | exact HB.out | apply ba' | apply bd' | apply be' | refine bs' ?_ GE275.out) | exact HB.out)))); have n2_ := am' (blk_below (g := gb275) (o := .cells #[.slice A0_0 l0_0.length c0_0, .int .i64 a0_1] 24 (0, 0)) (by (with_reducible repeat (first | refine kn' ?_ _ | refine kd' ?_ | refine ka' ?_ _)); exact BK275.out) hb); have n3_ := am' (below_step (by repeat (first | (with_reducible first | exact HB.out | apply ba' | apply bd' | apply be' | refine bs' ?_ GE275.out) | exact HB.out)) hb); clear HO279; clear BK275; clear HB; have HO279 := n0_; have HO285 := n1_; have BK275 := n2_; have HB := n3_; clear n0_ n1_ n2_ n3_; (try clear hb); (try clear hb2); (try clear hk); (try clear hi); (try clear ho0)) | ((with_reducible refine gate_dst (N := 6) rfl ?_); refine box_event ?hg (N := 6) ?hd (cs := #[.slice none 0 0, .int .i64 0]) (t := 28) ?hr ?_; (case hd => rfl); (case hg => rfl); (case hr => first | (go_simp; done) | (go_simp; rfl)); intro gb287 hg w19 hbox hb; have n0_ := am' (Kd.R_below (by (with_reducible repeat (first | apply ra' | apply rn' | apply rw')); exact HO279.out) hb); have n1_ := am' (Kd.R_below (by (with_reducible repeat (first | apply ra' | apply rn' | apply rw')); exact HO285.out) hb); have n2_ := am' (blk_below (g := gb275) (o := .cells #[.slice A0_0 l0_0.length c0_0, .int .i64 a0_1] 24 (0, 0)) (by (with_reducible repeat (first | refine kn' ?_ _ | refine kd' ?_ | refine ka' ?_ _)); exact BK275.out) hb); have n3_ := am' (below_step (by repeat (first | (with_reducible first | exact HB.out | apply ba' | apply bd' | apply be' | refine bs' ?_ GE275.out) | exact HB.out)) hb); have n4_ := am' (hbox); have n5_ := am' ((by rw [hg]; exact (below_size (by repeat (first | (with_reducible first | exact HB.out | apply ba' | apply bd' | apply be' | refine bs' ?_ GE275.out) | exact HB.out))) : w.heap.size ≤ gb287)); have n6_ := am' ((by rw [hg]; exact (below_size (by repeat (first | (with_reducible first | exact HB.out | apply ba' | apply bd' | apply be' | refine bs' ?_ GE275.out) | exact HB.out))) : w.heap.size ≤ gb287)); have n7_ := am' ((by rw [hg]; exact Nat.ne_of_lt (blk_lt (g := gb275) (o := .cells #[.slice A0_0 l0_0.length c0_0, .int .i64 a0_1] 24 (0, 0)) (by (with_reducible repeat (first | refine kn' ?_ _ | refine kd' ?_ | refine ka' ?_ _)); exact BK275.out)) : gb275 ≠ gb287)); have n8_ := am' ((by rw [hg]; exact Nat.ne_of_gt (blk_lt (g := gb275) (o := .cells #[.slice A0_0 l0_0.length c0_0, .int .i64 a0_1] 24 (0, 0)) (by (with_reducible repeat (first | refine kn' ?_ _ | refine kd' ?_ | refine ka' ?_ _)); exact BK275.out)) : gb287 ≠ gb275)); clear HO279; clear HO285; clear BK275; clear HB; have HO279 := n0_; have HO285 := n1_; have BK275 := n2_; have HB := n3_; have BK287 := n4_; have GW287 := n5_; have GE287 := n6_; have NB275_287 := n7_; have NB287_275 := n8_; clear n0_ n1_ n2_ n3_ n4_ n5_ n6_ n7_ n8_; clear hb hbox hg; obtain ⟨Ao20, co20, eo20⟩ := Kd.R_slice HO285.out; subst eo20; have hnb21 := NB287_275.out; have hnc21 := NB275_287.out; have hcz22_0 : w19.cell? ⟨gb287, 0, none⟩ = some (.slice none 0 0) := (blk_cell BK287.out 0).trans rfl; have hcz22_1 : w19.cell? ⟨gb287, 1, none⟩ = some (.int .i64 0) := (blk_cell BK287.out 1).trans rfl; have hfz22_0 := blk_frozen BK287.out 0; have hfz22_1 := blk_frozen BK287.out 1) | ((with_reducible refine gate_callee (f := 24) rfl ?_); refine goesL_ (some 24) rfl rfl Try.func24 (by kernel_rfl) rfl #[.agg #[.slice Ao20 t283.length co20, .int .i64 t286]] rfl (by (try simp only [List.map_toArray, List.map_cons, List.map_nil]); first | done | rfl | (simp only [List.length_drop, List.length_take]; rfl)) ?_; (with_reducible refine (impl_FewestTrips.calls kj2 _ _ t283 t286 t288 t289 _ ?side1 ?side2 A11.out).mono ?_); (case side1 => refine (Kd.R_reads' (e := 3) (base := w.heap.size) (ok := fun k_ => ((True ∧ ¬ D296_ k_) ∧ some k_ ≠ (.slice Ao15 t277.length co15 : Value).ownBlock)) (n := t283.length) (c := co20) ?_).2.2; exact (by (with_reducible repeat (first | apply ra' | apply rn' | apply rw')); exact (Kd.R_mono (Kd.R_far (p := ⟨gb287, 1, none⟩) (Kd.R_far (p := ⟨gb287, 0, none⟩) (Kd.R_types HO285.out BK287.out (by decide)) (fun _ hk => hk.2) (.slice Ao20 t283.length co20)) (fun _ hk => hk.2) (.int .i64 t286)) (fun _ h_ => h_.1)))); (case side2 => exact (Kd.R_reads' HO285.out).2.1); rintro e w23 ⟨rfl, hb⟩; refine ⟨_, rfl, ?_⟩; have n0_ := am' (Kd.R_below (by (with_reducible repeat (first | apply ra' | apply rn' | apply rw')); exact (Kd.R_mono (Kd.R_far (p := ⟨gb287, 1, none⟩) (Kd.R_far (p := ⟨gb287, 0, none⟩) (Kd.R_types HO279.out BK287.out (by decide)) (fun _ hk => hk.2) (.slice Ao20 t283.length co20)) (fun _ hk => hk.2) (.int .i64 t286)) (fun _ h_ => h_.1))) hb); have n1_ := am' (Kd.R_below (by (with_reducible repeat (first | apply ra' | apply rn' | apply rw')); exact (Kd.R_mono (Kd.R_far (p := ⟨gb287, 1, none⟩) (Kd.R_far (p := ⟨gb287, 0, none⟩) (Kd.R_types HO285.out BK287.out (by decide)) (fun _ hk => hk.2) (.slice Ao20 t283.length co20)) (fun _ hk => hk.2) (.int .i64 t286)) (fun _ h_ => h_.1))) hb); have n2_ := am' (blk_below (g := gb275) (o := .cells #[.slice A0_0 l0_0.length c0_0, .int .i64 a0_1] 24 (0, 0)) (by (with_reducible repeat (first | refine kn' ?_ _ | refine kd' ?_ | refine ka' ?_ _)); refine blk_far ?_ NB275_287.out _; (with_reducible repeat (first | refine kn' ?_ _ | refine kd' ?_ | refine ka' ?_ _)); refine blk_far ?_ NB275_287.out _; (with_reducible repeat (first | refine kn' ?_ _ | refine kd' ?_ | refine ka' ?_ _)); exact BK275.out) hb); have n3_ := am' (blk_below (g := gb287) (o := .cells #[.slice Ao20 t283.length co20, .int .i64 t286] 28 (0, 0)) (by (with_reducible repeat (first | refine kn' ?_ _ | refine kd' ?_ | refine ka' ?_ _)); refine blk_put (cs := #[.slice Ao20 t283.length co20, .int .i64 0]) ?_ 1 _ rfl; (with_reducible repeat (first | refine kn' ?_ _ | refine kd' ?_ | refine ka' ?_ _)); refine blk_put (cs := #[.slice none 0 0, .int .i64 0]) ?_ 0 _ rfl; (with_reducible repeat (first | refine kn' ?_ _ | refine kd' ?_ | refine ka' ?_ _)); exact BK287.out) hb); have n4_ := am' (below_step (by repeat (first | (with_reducible first | exact HB.out | apply ba' | apply bd' | apply be' | refine bs' ?_ GE275.out | refine bs' ?_ GE287.out) | exact HB.out)) hb); clear HO279; clear HO285; clear BK275; clear BK287; clear HB; have HO279 := n0_; have HO285 := n1_; have BK275 := n2_; have BK287 := n3_; have HB := n4_; clear n0_ n1_ n2_ n3_ n4_; (try clear hb); (try clear hb2); (try clear hk); (try clear hi)))
   (try simp only [Act.put, sa', sb', sc'])
   go_cut [34] (fun v34 wc => ∃ (kq : Nat) (x34_11 : Bool), v34 = .bool x34_11 ∧ Aside0 (laws_FnExactFewestTrips.j1 kq x34_11 l0_0 a0_1 t283 t286 = some r) ∧ Aside0 (kq ≤ kj2) ∧ Aside0 (Kd.R (Kd.int .i64) 3 wc w.heap.size (fun k_ => ¬ D296_ k_) (.slice Ao20 t283.length co20) t283) ∧ Aside0 (wc.heap[gb275]? = some (.cells #[(.slice A0_0 l0_0.length c0_0), .int .i64 a0_1] 24 (0, 0))) ∧ Aside0 (wc.heap[gb287]? = some (.cells #[(.slice Ao20 t283.length co20), .int .i64 t286] 28 (0, 0))) ∧ Aside0 (Below w.heap.size w wc))
   case first =>
    have H := HC12.out
    clear HC12; by_cases c24 : t288 = t281
    ·
     rw [if_pos c24] at H; have c24b0 : (t288 == t281) = true := beq_iff_eq.mpr c24
     have c24b1 : (t288 != t281) = false := bne_eq_false_iff_eq.mpr c24
     clear c24; (first | rw [c24b0] | (simp only [i64_w, i32_w]; rw [c24b0]) | skip)
     have H' := am' H
     clear H; go_wp2
     go_meet
     case rel => exact ⟨_, ((t289 != t282)), (by first | rfl | (simp; done) | (simp [*]; done)), H', ⟨by have := HJ2.out; first | omega | exact Nat.le_refl _⟩, ⟨by (with_reducible repeat (first | apply ra' | apply rn' | apply rw')); exact Kd.R_mono HO285.out (fun _ hk => hk.1.2)⟩, ⟨by (with_reducible repeat (first | refine kn' ?_ _ | refine kd' ?_ | refine ka' ?_ _)); exact BK275.out⟩, ⟨by (with_reducible repeat (first | refine kn' ?_ _ | refine kd' ?_ | refine ka' ?_ _)); exact BK287.out⟩, ⟨by repeat (first | (with_reducible first | exact HB.out | apply ba' | apply bd' | apply be' | refine bs' ?_ GE275.out | refine bs' ?_ GE287.out) | exact HB.out)⟩⟩
    ·
     rw [if_neg c24] at H; have c24b0 : (t288 == t281) = false := beq_eq_false_iff_ne.mpr c24
     have c24b1 : (t288 != t281) = true := bne_iff_ne.mpr c24
     (first | rw [c24b0] | (simp only [i64_w, i32_w]; rw [c24b0]) | skip)
     have H' := am' H
     clear H; go_wp2
     go_meet
     case rel => exact ⟨_, (true), (by first | rfl | (simp; done) | (simp [*]; done)), H', ⟨by have := HJ2.out; first | omega | exact Nat.le_refl _⟩, ⟨by (with_reducible repeat (first | apply ra' | apply rn' | apply rw')); exact Kd.R_mono HO285.out (fun _ hk => hk.1.2)⟩, ⟨by (with_reducible repeat (first | refine kn' ?_ _ | refine kd' ?_ | refine ka' ?_ _)); exact BK275.out⟩, ⟨by (with_reducible repeat (first | refine kn' ?_ _ | refine kd' ?_ | refine ka' ?_ _)); exact BK287.out⟩, ⟨by repeat (first | (with_reducible first | exact HB.out | apply ba' | apply bd' | apply be' | refine bs' ?_ GE275.out | refine bs' ?_ GE287.out) | exact HB.out)⟩⟩
   case rest =>
    clear HC12; try clear c1
    try clear c2
    try clear p2
    try clear c5
    try clear c7
    try clear c7b0
    try clear c16
    try clear c18
    try clear c21
    try clear c23
    try clear c24
    try clear c24b0
    try clear c24b1
    try clear hcz13_0
    try clear hcz13_1
    try clear hcz17_0
    try clear hcz17_1
    try clear hcz22_0
    try clear hcz22_1
    try clear hcz5_0
    try clear hcz5_1
    try clear hfz13_0
    try clear hfz13_1
    try clear hfz17_0
    try clear hfz17_1
    try clear hfz22_0
    try clear hfz22_1
    try clear hfz5_0
    try clear hfz5_1
    try clear p2
    obtain ⟨kq, x34_11, rfl, HA, HJ11, HO_288000, BK275, BK287, HB⟩ := hcut
    cases kq with
    | zero => exact absurd HA.out (by simp [laws_FnExactFewestTrips.j1])
    | succ kj11 =>
     have H := HA.out
     clear HA; simp only [laws_FnExactFewestTrips.j1] at H
     have HC25 := am' H
     clear H; go_upto_if 34 with (fail)
     go_cut [] (fun wc => ∃ (kq : Nat), Aside0 (laws_FnExactFewestTrips.j2 kq l0_0 a0_1 t283 t286 = some r) ∧ Aside0 (kq ≤ kj11) ∧ Aside0 (Kd.R (Kd.int .i64) 3 wc w.heap.size (fun k_ => ¬ D296_ k_) (.slice Ao20 t283.length co20) t283) ∧ Aside0 (wc.heap[gb275]? = some (.cells #[(.slice A0_0 l0_0.length c0_0), .int .i64 a0_1] 24 (0, 0))) ∧ Aside0 (wc.heap[gb287]? = some (.cells #[(.slice Ao20 t283.length co20), .int .i64 t286] 28 (0, 0))) ∧ Aside0 (Below w.heap.size w wc))
     case first =>
      have H := HC25.out
      clear HC25; by_cases c26 : x34_11 = true
      ·
       subst c26; have H1 : (some false) = some r := by rw [if_pos rfl] at H; exact H
       clear H; have H := H1; clear H1; obtain rfl := Option.some.inj H
       go_wp2
       go_ret
       exact ⟨by first | rfl | (simp [errW_none, errW_some] <;> rfl) | (simp [*, errW_none, errW_some] <;> rfl), by repeat (first | (with_reducible first | exact HB.out | apply ba' | apply bd' | apply be' | refine bs' ?_ GE275.out | refine bs' ?_ GE287.out) | exact HB.out)⟩
      ·
       replace c26 := Bool.eq_false_iff.mpr c26
       subst c26; have H1 : (laws_FnExactFewestTrips.j2 kj11 l0_0 a0_1 t283 t286) = some r := by rw [if_neg (show ¬ (false = true) by decide)] at H; exact H
       clear H; have H := H1; clear H1; have H' := am' H
       clear H; go_wp2
       go_meet
       case rel => exact ⟨_, H', ⟨by have := HJ2.out; have := HJ11.out; first | omega | exact Nat.le_refl _⟩, ⟨by (with_reducible repeat (first | apply ra' | apply rn' | apply rw')); exact HO_288000.out⟩, ⟨by (with_reducible repeat (first | refine kn' ?_ _ | refine kd' ?_ | refine ka' ?_ _)); exact BK275.out⟩, ⟨by (with_reducible repeat (first | refine kn' ?_ _ | refine kd' ?_ | refine ka' ?_ _)); exact BK287.out⟩, ⟨by repeat (first | (with_reducible first | exact HB.out | apply ba' | apply bd' | apply be' | refine bs' ?_ GE275.out | refine bs' ?_ GE287.out) | exact HB.out)⟩⟩
     case rest =>
      clear HC25; try clear c1
      try clear c2
      try clear p2
      try clear c5
      try clear c7
      try clear c7b0
      try clear c16
      try clear c18
      try clear c21
      try clear c23
      try clear c24
      try clear c24b0
      try clear c24b1
      try clear c26
      try clear hcz13_0
      try clear hcz13_1
      try clear hcz17_0
      try clear hcz17_1
      try clear hcz22_0
      try clear hcz22_1
      try clear hcz5_0
      try clear hcz5_1
      try clear hfz13_0
      try clear hfz13_1
      try clear hfz17_0
      try clear hfz17_1
      try clear hfz22_0
      try clear hfz22_1
      try clear hfz5_0
      try clear hfz5_1
      try clear p2
      obtain ⟨kq, HA, HJ24, HO_288000, BK275, BK287, HB⟩ := hcut
      cases kq with
      | zero => exact absurd HA.out (by simp [laws_FnExactFewestTrips.j2])
      | succ kj24 =>
       have H := HA.out
       clear HA; simp only [laws_FnExactFewestTrips.j2] at H
       replace H := Option.bind_eq_some_iff.mp H
       obtain ⟨⟨t290, t293⟩, A270, H⟩ := H
       replace H : ((laws_eqParty.f kj24 t283 t286 t290 t293).bind fun t294 => (if t294 = true then (some true) else (some false))) = some r := H
       have A27 := am' A270
       clear A270; replace H := Option.bind_eq_some_iff.mp H
       obtain ⟨t294, A280, H⟩ := H
       replace H : (if t294 = true then (some true) else (some false)) = some r := H
       have A28 := am' A280
       clear A280; by_cases c29 : t294 = true
       ·
        subst c29; have H1 : (some true) = some r := by rw [if_pos rfl] at H; exact H
        clear H; have H := H1; clear H1; obtain rfl := Option.some.inj H
        try go_wp2
        have n0_ := am' (rw' HO_288000.out)
        have n1_ := am' (kd' BK275.out)
        have n2_ := am' (kd' BK287.out)
        have n3_ := am' (be' HB.out)
        clear HO_288000; clear BK275; clear BK287; clear HB; have HO_288000 := n0_; have BK275 := n1_; have BK287 := n2_; have HB := n3_; clear n0_ n1_ n2_ n3_; refine start_ (n := 5) (S := fun w' => w'.cell? ⟨gb287, 0, none⟩ = some (.slice Ao20 t283.length co20) ∧ w'.cell? ⟨gb287, 1, none⟩ = some (.int .i64 t286) ∧ w'.cell? ⟨gb275, 0, none⟩ = some (.slice A0_0 l0_0.length c0_0) ∧ w'.cell? ⟨gb275, 1, none⟩ = some (.int .i64 a0_1)) (ds := []) #[false, false, false, false, false] (by kernel_rfl) rfl rfl ⟨(blk_cell BK287.out 0).trans rfl, (blk_cell BK287.out 1).trans rfl, (blk_cell BK275.out 0).trans rfl, (blk_cell BK275.out 1).trans rfl⟩ (fun hHeld => ?_)
        generalize wc.drew = w30 at HO_288000 BK275 BK287 HB hHeld ⊢
        refine take_ (i := 0) (N := some 35) (v := ?_) (a' := ?_) #[true, false, false, false, false] rfl rfl (by kernel_rfl) (fun _ _ _ h => h) (Or.inl ⟨by rfl, ?_⟩) hHeld ?_ ?_
        rotate_left
        ·
         rintro w' ⟨s0, s1, s2, s3⟩
         go_simp; with_reducible rfl
        rotate_left
        ·
         simp only [Act.put, sa', sb', sc', i64_w, i32_w]
         rfl
        refine take_ (i := 1) (N := some 36) (v := ?_) (a' := ?_) #[true, true, false, false, false] rfl rfl (by kernel_rfl) (fun _ _ _ h => h) (Or.inl ⟨by rfl, ?_⟩) hHeld ?_ ?_
        rotate_left
        ·
         rintro w' ⟨s0, s1, s2, s3⟩
         go_simp; with_reducible rfl
        rotate_left
        ·
         simp only [Act.put, sa', sb', sc', i64_w, i32_w]
         rfl
        refine one_ (i := 2) (N := some 37) #[true, true, true, false, false] rfl rfl (by kernel_rfl) (by decide) (fun K hK => ?_)
        refine goes_ Try.func18 (by kernel_rfl) rfl #[.agg #[.slice A0_0 l0_0.length c0_0, .int .i64 a0_1]] (by rfl) rfl rfl (by (try simp only [List.map_toArray, List.map_cons, List.map_nil]); first | done | rfl | (simp only [List.length_drop, List.length_take]; rfl)) ?_
        with_reducible refine (laws_toParty.calls kj24 _ _ l0_0 a0_1 t290 t293 _ ?side1 ?side2 A27.out).mono ?_
        (case side1 => repeat (first | exact (Kd.C_below HR0_0.out HB.out) | (with_reducible refine ca' ?_ _) | (with_reducible refine cn' ?_ _) | (with_reducible refine cd' ?_)))
        (case side2 => exact HC0_0.out)
        rintro e w31 ⟨v291, rfl, ho0, hb⟩
        refine ⟨_, rfl, ?_⟩
        have n0_ := am' (Kd.R_elder' (by (with_reducible repeat (first | apply ra' | apply rn' | apply rw')); exact HO_288000.out) (Kd.R_base ho0) hb)
        have n1_ := am' (Kd.R_lower (Kd.R_new' ho0 (Kd.R_lt (by (with_reducible repeat (first | apply ra' | apply rn' | apply rw')); exact HO_288000.out))) (below_size (by repeat (first | (with_reducible first | exact HB.out | apply ba' | apply bd' | apply be' | refine bs' ?_ GE275.out | refine bs' ?_ GE287.out) | exact HB.out))))
        have n2_ := am' (blk_below (g := gb275) (o := .cells #[.slice A0_0 l0_0.length c0_0, .int .i64 a0_1] 24 (0, 0)) (by (with_reducible repeat (first | refine kn' ?_ _ | refine kd' ?_ | refine ka' ?_ _)); exact BK275.out) hb)
        have n3_ := am' (blk_below (g := gb287) (o := .cells #[.slice Ao20 t283.length co20, .int .i64 t286] 28 (0, 0)) (by (with_reducible repeat (first | refine kn' ?_ _ | refine kd' ?_ | refine ka' ?_ _)); exact BK287.out) hb)
        have n4_ := am' (below_step (by repeat (first | (with_reducible first | exact HB.out | apply ba' | apply bd' | apply be' | refine bs' ?_ GE275.out | refine bs' ?_ GE287.out) | exact HB.out)) hb)
        clear HO_288000; clear BK275; clear BK287; clear HB; have HO_288000 := n0_; have HO292 := n1_; have BK275 := n2_; have BK287 := n3_; have HB := n4_; clear n0_ n1_ n2_ n3_ n4_; (try clear hb)
        (try clear hb2)
        (try clear hk)
        (try clear hi)
        (try clear ho0)
        obtain ⟨Ao32, co32, eo32⟩ := Kd.R_slice HO292.out
        (first | subst eo32 | (injection eo32 with f1_ f2_ f3_; have f4_ := f1_.symm; have f5_ := f3_.symm; clear f1_ f2_ f3_; subst f4_; subst f5_))
        refine hK.out _ _ ⟨(blk_cell BK287.out 0).trans rfl, (blk_cell BK287.out 1).trans rfl, (blk_cell BK275.out 0).trans rfl, (blk_cell BK275.out 1).trans rfl⟩ (fun hHeld => ?_)
        clear hK K; refine norm_ (a' := ?_) ?_ ?_
        rotate_left
        ·
         show Act.put _ (some 37) _ = _
         simp only [Act.put, sa', sb', sc', i64_w, i32_w]
         rfl
        refine one_ (i := 3) (N := some 38) #[true, true, true, true, false] rfl rfl (by kernel_rfl) (by decide) (fun K hK => ?_)
        refine goes_ Try.func20 (by kernel_rfl) rfl #[.agg #[.slice Ao20 t283.length co20, .int .i64 t286], .agg #[.slice Ao32 t290.length co32, .int .i64 t293]] (by rfl) rfl rfl (by (try simp only [List.map_toArray, List.map_cons, List.map_nil]); first | done | rfl | (simp only [List.length_drop, List.length_take]; rfl)) ?_
        with_reducible refine (laws_eqParty.calls kj24 _ _ t283 t286 _ _ t290 t293 true _ ?side1 ?side2 ?side3 ?side4 A28.out).mono ?_
        (case side1 => repeat (first | exact (Kd.R_reads' HO_288000.out).2.2 | (with_reducible refine ca' ?_ _) | (with_reducible refine cn' ?_ _) | (with_reducible refine cd' ?_)))
        (case side2 => exact (Kd.R_reads' HO_288000.out).2.1)
        (case side3 => repeat (first | exact (Kd.R_reads' HO292.out).2.2 | (with_reducible refine ca' ?_ _) | (with_reducible refine cn' ?_ _) | (with_reducible refine cd' ?_)))
        (case side4 => exact (Kd.R_reads' HO292.out).2.1)
        rintro e w33 ⟨rfl, hb⟩
        refine ⟨_, rfl, ?_⟩
        have n0_ := am' (Kd.R_below (by (with_reducible repeat (first | apply ra' | apply rn' | apply rw')); exact HO_288000.out) hb)
        have n1_ := am' (Kd.R_below (by (with_reducible repeat (first | apply ra' | apply rn' | apply rw')); exact HO292.out) hb)
        have n2_ := am' (blk_below (g := gb275) (o := .cells #[.slice A0_0 l0_0.length c0_0, .int .i64 a0_1] 24 (0, 0)) (by (with_reducible repeat (first | refine kn' ?_ _ | refine kd' ?_ | refine ka' ?_ _)); exact BK275.out) hb)
        have n3_ := am' (blk_below (g := gb287) (o := .cells #[.slice Ao20 t283.length co20, .int .i64 t286] 28 (0, 0)) (by (with_reducible repeat (first | refine kn' ?_ _ | refine kd' ?_ | refine ka' ?_ _)); exact BK287.out) hb)
        have n4_ := am' (below_step (by repeat (first | (with_reducible first | exact HB.out | apply ba' | apply bd' | apply be' | refine bs' ?_ GE275.out | refine bs' ?_ GE287.out) | exact HB.out)) hb)
        clear HO_288000; clear HO292; clear BK275; clear BK287; clear HB; have HO_288000 := n0_; have HO292 := n1_; have BK275 := n2_; have BK287 := n3_; have HB := n4_; clear n0_ n1_ n2_ n3_ n4_; (try clear hb)
        (try clear hb2)
        (try clear hk)
        (try clear hi)
        refine hK.out _ _ ⟨(blk_cell BK287.out 0).trans rfl, (blk_cell BK287.out 1).trans rfl, (blk_cell BK275.out 0).trans rfl, (blk_cell BK275.out 1).trans rfl⟩ (fun hHeld => ?_)
        clear hK K; refine norm_ (a' := ?_) ?_ ?_
        rotate_left
        ·
         show Act.put _ (some 38) _ = _
         simp only [Act.put, sa', sb', sc', i64_w, i32_w]
         rfl
        refine pure_ (i := 4) (N := some 39) (v := ?_) (a' := ?_) #[true, true, true, true, true] rfl rfl (by kernel_rfl) (fun _ _ _ h => h) (Or.inl ⟨by rfl, ?_⟩) ?_ ?_
        rotate_left
        ·
         intro w'; go_simp; with_reducible rfl
        rotate_left
        ·
         simp only [Act.put, sa', sb', sc', i64_w, i32_w]
         rfl
        refine done_ (by kernel_rfl) ?_
        try go_wp2
        go_ret
        exact ⟨by first | rfl | (simp [errW_none, errW_some] <;> rfl) | (simp [*, errW_none, errW_some] <;> rfl), by repeat (first | (with_reducible first | exact HB.out | apply ba' | apply bd' | apply be' | refine bs' ?_ GE275.out | refine bs' ?_ GE287.out) | exact HB.out)⟩
       ·
        replace c29 := Bool.eq_false_iff.mpr c29
        subst c29; have H1 : (some false) = some r := by rw [if_neg (show ¬ (false = true) by decide)] at H; exact H
        clear H; have H := H1; clear H1; obtain rfl := Option.some.inj H
        try go_wp2
        have n0_ := am' (rw' HO_288000.out)
        have n1_ := am' (kd' BK275.out)
        have n2_ := am' (kd' BK287.out)
        have n3_ := am' (be' HB.out)
        clear HO_288000; clear BK275; clear BK287; clear HB; have HO_288000 := n0_; have BK275 := n1_; have BK287 := n2_; have HB := n3_; clear n0_ n1_ n2_ n3_; refine start_ (n := 5) (S := fun w' => w'.cell? ⟨gb287, 0, none⟩ = some (.slice Ao20 t283.length co20) ∧ w'.cell? ⟨gb287, 1, none⟩ = some (.int .i64 t286) ∧ w'.cell? ⟨gb275, 0, none⟩ = some (.slice A0_0 l0_0.length c0_0) ∧ w'.cell? ⟨gb275, 1, none⟩ = some (.int .i64 a0_1)) (ds := []) #[false, false, false, false, false] (by kernel_rfl) rfl rfl ⟨(blk_cell BK287.out 0).trans rfl, (blk_cell BK287.out 1).trans rfl, (blk_cell BK275.out 0).trans rfl, (blk_cell BK275.out 1).trans rfl⟩ (fun hHeld => ?_)
        generalize wc.drew = w34 at HO_288000 BK275 BK287 HB hHeld ⊢
        refine take_ (i := 0) (N := some 35) (v := ?_) (a' := ?_) #[true, false, false, false, false] rfl rfl (by kernel_rfl) (fun _ _ _ h => h) (Or.inl ⟨by rfl, ?_⟩) hHeld ?_ ?_
        rotate_left
        ·
         rintro w' ⟨s0, s1, s2, s3⟩
         go_simp; with_reducible rfl
        rotate_left
        ·
         simp only [Act.put, sa', sb', sc', i64_w, i32_w]
         rfl
        refine take_ (i := 1) (N := some 36) (v := ?_) (a' := ?_) #[true, true, false, false, false] rfl rfl (by kernel_rfl) (fun _ _ _ h => h) (Or.inl ⟨by rfl, ?_⟩) hHeld ?_ ?_
        rotate_left
        ·
         rintro w' ⟨s0, s1, s2, s3⟩
         go_simp; with_reducible rfl
        rotate_left
        ·
         simp only [Act.put, sa', sb', sc', i64_w, i32_w]
         rfl
        refine one_ (i := 2) (N := some 37) #[true, true, true, false, false] rfl rfl (by kernel_rfl) (by decide) (fun K hK => ?_)
        refine goes_ Try.func18 (by kernel_rfl) rfl #[.agg #[.slice A0_0 l0_0.length c0_0, .int .i64 a0_1]] (by rfl) rfl rfl (by (try simp only [List.map_toArray, List.map_cons, List.map_nil]); first | done | rfl | (simp only [List.length_drop, List.length_take]; rfl)) ?_
        with_reducible refine (laws_toParty.calls kj24 _ _ l0_0 a0_1 t290 t293 _ ?side1 ?side2 A27.out).mono ?_
        (case side1 => repeat (first | exact (Kd.C_below HR0_0.out HB.out) | (with_reducible refine ca' ?_ _) | (with_reducible refine cn' ?_ _) | (with_reducible refine cd' ?_)))
        (case side2 => exact HC0_0.out)
        rintro e w35 ⟨v291, rfl, ho0, hb⟩
        refine ⟨_, rfl, ?_⟩
        have n0_ := am' (Kd.R_elder' (by (with_reducible repeat (first | apply ra' | apply rn' | apply rw')); exact HO_288000.out) (Kd.R_base ho0) hb)
        have n1_ := am' (Kd.R_lower (Kd.R_new' ho0 (Kd.R_lt (by (with_reducible repeat (first | apply ra' | apply rn' | apply rw')); exact HO_288000.out))) (below_size (by repeat (first | (with_reducible first | exact HB.out | apply ba' | apply bd' | apply be' | refine bs' ?_ GE275.out | refine bs' ?_ GE287.out) | exact HB.out))))
        have n2_ := am' (blk_below (g := gb275) (o := .cells #[.slice A0_0 l0_0.length c0_0, .int .i64 a0_1] 24 (0, 0)) (by (with_reducible repeat (first | refine kn' ?_ _ | refine kd' ?_ | refine ka' ?_ _)); exact BK275.out) hb)
        have n3_ := am' (blk_below (g := gb287) (o := .cells #[.slice Ao20 t283.length co20, .int .i64 t286] 28 (0, 0)) (by (with_reducible repeat (first | refine kn' ?_ _ | refine kd' ?_ | refine ka' ?_ _)); exact BK287.out) hb)
        have n4_ := am' (below_step (by repeat (first | (with_reducible first | exact HB.out | apply ba' | apply bd' | apply be' | refine bs' ?_ GE275.out | refine bs' ?_ GE287.out) | exact HB.out)) hb)
        clear HO_288000; clear BK275; clear BK287; clear HB; have HO_288000 := n0_; have HO292 := n1_; have BK275 := n2_; have BK287 := n3_; have HB := n4_; clear n0_ n1_ n2_ n3_ n4_; (try clear hb)
        (try clear hb2)
        (try clear hk)
        (try clear hi)
        (try clear ho0)
        obtain ⟨Ao36, co36, eo36⟩ := Kd.R_slice HO292.out
        (first | subst eo36 | (injection eo36 with f1_ f2_ f3_; have f4_ := f1_.symm; have f5_ := f3_.symm; clear f1_ f2_ f3_; subst f4_; subst f5_))
        refine hK.out _ _ ⟨(blk_cell BK287.out 0).trans rfl, (blk_cell BK287.out 1).trans rfl, (blk_cell BK275.out 0).trans rfl, (blk_cell BK275.out 1).trans rfl⟩ (fun hHeld => ?_)
        clear hK K; refine norm_ (a' := ?_) ?_ ?_
        rotate_left
        ·
         show Act.put _ (some 37) _ = _
         simp only [Act.put, sa', sb', sc', i64_w, i32_w]
         rfl
        refine one_ (i := 3) (N := some 38) #[true, true, true, true, false] rfl rfl (by kernel_rfl) (by decide) (fun K hK => ?_)
        refine goes_ Try.func20 (by kernel_rfl) rfl #[.agg #[.slice Ao20 t283.length co20, .int .i64 t286], .agg #[.slice Ao36 t290.length co36, .int .i64 t293]] (by rfl) rfl rfl (by (try simp only [List.map_toArray, List.map_cons, List.map_nil]); first | done | rfl | (simp only [List.length_drop, List.length_take]; rfl)) ?_
        with_reducible refine (laws_eqParty.calls kj24 _ _ t283 t286 _ _ t290 t293 false _ ?side1 ?side2 ?side3 ?side4 A28.out).mono ?_
        (case side1 => repeat (first | exact (Kd.R_reads' HO_288000.out).2.2 | (with_reducible refine ca' ?_ _) | (with_reducible refine cn' ?_ _) | (with_reducible refine cd' ?_)))
        (case side2 => exact (Kd.R_reads' HO_288000.out).2.1)
        (case side3 => repeat (first | exact (Kd.R_reads' HO292.out).2.2 | (with_reducible refine ca' ?_ _) | (with_reducible refine cn' ?_ _) | (with_reducible refine cd' ?_)))
        (case side4 => exact (Kd.R_reads' HO292.out).2.1)
        rintro e w37 ⟨rfl, hb⟩
        refine ⟨_, rfl, ?_⟩
        have n0_ := am' (Kd.R_below (by (with_reducible repeat (first | apply ra' | apply rn' | apply rw')); exact HO_288000.out) hb)
        have n1_ := am' (Kd.R_below (by (with_reducible repeat (first | apply ra' | apply rn' | apply rw')); exact HO292.out) hb)
        have n2_ := am' (blk_below (g := gb275) (o := .cells #[.slice A0_0 l0_0.length c0_0, .int .i64 a0_1] 24 (0, 0)) (by (with_reducible repeat (first | refine kn' ?_ _ | refine kd' ?_ | refine ka' ?_ _)); exact BK275.out) hb)
        have n3_ := am' (blk_below (g := gb287) (o := .cells #[.slice Ao20 t283.length co20, .int .i64 t286] 28 (0, 0)) (by (with_reducible repeat (first | refine kn' ?_ _ | refine kd' ?_ | refine ka' ?_ _)); exact BK287.out) hb)
        have n4_ := am' (below_step (by repeat (first | (with_reducible first | exact HB.out | apply ba' | apply bd' | apply be' | refine bs' ?_ GE275.out | refine bs' ?_ GE287.out) | exact HB.out)) hb)
        clear HO_288000; clear HO292; clear BK275; clear BK287; clear HB; have HO_288000 := n0_; have HO292 := n1_; have BK275 := n2_; have BK287 := n3_; have HB := n4_; clear n0_ n1_ n2_ n3_ n4_; (try clear hb)
        (try clear hb2)
        (try clear hk)
        (try clear hi)
        refine hK.out _ _ ⟨(blk_cell BK287.out 0).trans rfl, (blk_cell BK287.out 1).trans rfl, (blk_cell BK275.out 0).trans rfl, (blk_cell BK275.out 1).trans rfl⟩ (fun hHeld => ?_)
        clear hK K; refine norm_ (a' := ?_) ?_ ?_
        rotate_left
        ·
         show Act.put _ (some 38) _ = _
         simp only [Act.put, sa', sb', sc', i64_w, i32_w]
         rfl
        refine pure_ (i := 4) (N := some 39) (v := ?_) (a' := ?_) #[true, true, true, true, true] rfl rfl (by kernel_rfl) (fun _ _ _ h => h) (Or.inl ⟨by rfl, ?_⟩) ?_ ?_
        rotate_left
        ·
         intro w'; go_simp; with_reducible rfl
        rotate_left
        ·
         simp only [Act.put, sa', sb', sc', i64_w, i32_w]
         rfl
        refine done_ (by kernel_rfl) ?_
        try go_wp2
        go_ret
        exact ⟨by first | rfl | (simp [errW_none, errW_some] <;> rfl) | (simp [*, errW_none, errW_some] <;> rfl), by repeat (first | (with_reducible first | exact HB.out | apply ba' | apply bd' | apply be' | refine bs' ?_ GE275.out | refine bs' ?_ GE287.out) | exact HB.out)⟩
end Go.Proofs.Ytamljjfhkolflaa.C3
