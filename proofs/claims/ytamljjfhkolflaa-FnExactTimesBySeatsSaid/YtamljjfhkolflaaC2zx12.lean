import Derived.Test.YtamljjfhkolflaaC2zx0
import Derived.Test.YtamljjfhkolflaaC2zx1
import Derived.Test.YtamljjfhkolflaaC2zx6
import Derived.Test.YtamljjfhkolflaaC2zx11
import Derived.Test.YtamljjfhkolflaaC2zAl
namespace Go.Proofs.Ytamljjfhkolflaa.C2
open Go.RowKit Go.Proofs.YtamljjfhkolflaaW.PrintWords Go.Proofs.YtamljjfhkolflaaW.PrintLast Go.Proofs.YtamljjfhkolflaaW.PrintMore Go.Proofs.Ytamljjfhkolflaa.H
attribute [local go_sem] max2_int min2_int max_two min_two max_three min_three max_four min_four
set_option linter.unusedVariables false
set_option linter.unusedSimpArgs false
mutual
def laws_FnExactTimesBySeats.j0 : Nat → List Int → Int → Option (Bool)
 | 0, _, _ => none
 | k + 1, x293000, x293001 => (laws_toParty.f k x293000 x293001).bind fun bt294 => ((spec_TimesBySeats.f k bt294.1 bt294.2).bind fun bt298 => ((laws_toParty.f k x293000 x293001).bind fun bt302 => ((impl_TimesBySeats.f k bt302.1 bt302.2).bind fun bt307 => ((laws_eqIntS.f k bt307.1 bt298.1).bind fun t311 => (if t311 = true then (laws_FnExactTimesBySeats.j1 k bt298.1 bt298.2 bt307.1 bt307.2 (bt307.2 != bt298.2) x293000 x293001 bt302.1 bt302.2) else (laws_FnExactTimesBySeats.j1 k bt298.1 bt298.2 bt307.1 bt307.2 true x293000 x293001 bt302.1 bt302.2))))))
def laws_FnExactTimesBySeats.j1 : Nat → List Int → Bool → List Int → Bool → Bool → List Int → Int → List Int → Int → Option (Bool)
 | 0, _, _, _, _, _, _, _, _, _ => none
 | k + 1, x4, x5, x7, x8, x40, x293000, x293001, x307000, x307001 => if x40 = true then (some false) else (laws_FnExactTimesBySeats.j2 k x4 x5 x7 x8 x293000 x293001 x307000 x307001)
def laws_FnExactTimesBySeats.j2 : Nat → List Int → Bool → List Int → Bool → List Int → Int → List Int → Int → Option (Bool)
 | 0, _, _, _, _, _, _, _, _ => none
 | k + 1, x4, x5, x7, x8, x293000, x293001, x307000, x307001 => (laws_toParty.f k x293000 x293001).bind fun bt312 => ((laws_eqParty.f k x307000 x307001 bt312.1 bt312.2).bind fun t316 => (if t316 = true then (laws_FnExactTimesBySeats.j3 k x4 x5 x7 x8 x293000 x293001 x307000 x307001) else (some false)))
def laws_FnExactTimesBySeats.j3 : Nat → List Int → Bool → List Int → Bool → List Int → Int → List Int → Int → Option (Bool)
 | 0, _, _, _, _, _, _, _, _ => none
 | k + 1, x4, x5, x7, x8, x293000, x293001, x307000, x307001 => (laws_markParty.f k x307000 x307001 1).bind fun bt317 => (if bt317.1 < 0 then (laws_FnExactTimesBySeats.j4 k x4 x5 x7 true x293000 x293001) else ((laws_eqIntS.f k x7 x4).bind fun t319 => (if t319 = true then (laws_FnExactTimesBySeats.j4 k x4 x5 x7 (x8 != x5) x293000 x293001) else (laws_FnExactTimesBySeats.j4 k x4 x5 x7 true x293000 x293001))))
def laws_FnExactTimesBySeats.j4 : Nat → List Int → Bool → List Int → Bool → List Int → Int → Option (Bool)
 | 0, _, _, _, _, _, _ => none
 | k + 1, x4, x5, x7, x61, x293000, x293001 => if x61 = true then (some false) else (laws_FnExactTimesBySeats.j5 k x4 x5 x7 x293000 x293001)
def laws_FnExactTimesBySeats.j5 : Nat → List Int → Bool → List Int → List Int → Int → Option (Bool)
 | 0, _, _, _, _, _ => none
 | k + 1, x4, x5, x7, x293000, x293001 => (laws_markIntS.f k x7 1).bind fun bt320 => ((laws_heldIntS.f k bt320.2 1).bind fun t322 => (if t322 < 0 then (some false) else (laws_FnExactTimesBySeats.j6 k x4 x5 bt320.2 bt320.1 t322 x293000 x293001)))
def laws_FnExactTimesBySeats.j6 : Nat → List Int → Bool → List Int → Int → Int → List Int → Int → Option (Bool)
 | 0, _, _, _, _, _, _, _ => none
 | k + 1, x4, x5, x7, x10, x11, x293000, x293001 => if x11 = x10 then (laws_FnExactTimesBySeats.j7 k x4 x5 x7 x10 x293000 x293001) else (some false)
def laws_FnExactTimesBySeats.j7 : Nat → List Int → Bool → List Int → Int → List Int → Int → Option (Bool)
 | 0, _, _, _, _, _, _ => none
 | k + 1, x4, x5, x7, x10, x293000, x293001 => (laws_toParty.f k x293000 x293001).bind fun bt323 => ((impl_TimesBySeats.f k bt323.1 bt323.2).bind fun bt327 => ((laws_eqIntS.f k bt327.1 x4).bind fun t331 => (if t331 = true then (laws_FnExactTimesBySeats.j8 k x7 x10 (bt327.2 != x5)) else (laws_FnExactTimesBySeats.j8 k x7 x10 true))))
def laws_FnExactTimesBySeats.j8 : Nat → List Int → Int → Bool → Option (Bool)
 | 0, _, _, _ => none
 | k + 1, x7, x10, x87 => if x87 = true then (some false) else (laws_FnExactTimesBySeats.j9 k x7 x10)
def laws_FnExactTimesBySeats.j9 : Nat → List Int → Int → Option (Bool)
 | 0, _, _ => none
 | k + 1, x7, x10 => (laws_heldIntS.f k x7 1).bind fun t332 => (if t332 < 0 then (some false) else (if t332 = x10 then (some true) else (some false)))
end
def laws_FnExactTimesBySeats.f (k : Nat) (l0_0 : List Int) (a0_1 : Int) : Option (Bool) := (laws_szParty.f l0_0 a0_1 1048576).bind fun t293 => (if t293 < 0 then (some true) else (laws_FnExactTimesBySeats.j0 k l0_0 a0_1))
set_option maxHeartbeats 8000000 in
set_option maxRecDepth 100000 in
theorem laws_FnExactTimesBySeats.calls (k : Nat) (A0_0 : Option Addr) (c0_0 : Nat) (l0_0 : List Int) (a0_1 : Int) (r : Bool) (w : World) (hr0_0 : Kd.C (Kd.int .i64) w A0_0 l0_0.length l0_0) (hc0_0 : l0_0.length ≤ c0_0) (h : laws_FnExactTimesBySeats.f k l0_0 a0_1 = some r) :
  Calls Try.prog 8 #[.agg #[.slice A0_0 l0_0.length c0_0, .int .i64 a0_1]] w fun e w' => e = .returned (.bool r) ∧ Below w.heap.size w w' := by
 have hu24 := Try.underlying24
 have hu28 := Try.underlying28
 have HR0_0 := am' hr0_0
 have HC0_0 := am' hc0_0
 clear hr0_0 hc0_0; have HB := am' (Below.refl w.heap.size w)
 have H : ((laws_szParty.f l0_0 a0_1 1048576).bind fun t293 => (if t293 < 0 then (some true) else (laws_FnExactTimesBySeats.j0 k l0_0 a0_1))) = some r := h
 clear h; replace H := Option.bind_eq_some_iff.mp H
 obtain ⟨t293, A20, H⟩ := H
 replace H : (if t293 < 0 then (some true) else (laws_FnExactTimesBySeats.j0 k l0_0 a0_1)) = some r := H
 have A2 := am' A20
 clear A20; have HC3 := am' H
 clear H; go_enter Try.func8, Try.ntmps8
 go_upto_if 18 with (first | ((with_reducible refine gate_dst (N := 1) rfl ?_); refine box_event ?hg (N := 1) ?hd (cs := #[.slice A0_0 l0_0.length c0_0, .int .i64 a0_1]) (t := 24) ?hr ?_; (case hd => rfl); (case hg => rfl); (case hr => first | (go_simp; done) | (go_simp; rfl)); intro gb292 hg w4 hbox hb; have n0_ := am' (below_step (by repeat (first | (with_reducible first | exact HB.out | apply ba' | apply bd' | apply be') | exact HB.out)) hb); have n1_ := am' (hbox); have n2_ := am' ((by rw [hg]; exact (below_size (by repeat (first | (with_reducible first | exact HB.out | apply ba' | apply bd' | apply be') | exact HB.out))) : w.heap.size ≤ gb292)); have n3_ := am' ((by rw [hg]; exact (below_size (by repeat (first | (with_reducible first | exact HB.out | apply ba' | apply bd' | apply be') | exact HB.out))) : w.heap.size ≤ gb292)); clear HB; have HB := n0_; have BK292 := n1_; have GW292 := n2_; have GE292 := n3_; clear n0_ n1_ n2_ n3_; clear hb hbox hg; have hcz5_0 : w4.cell? ⟨gb292, 0, none⟩ = some (.slice A0_0 l0_0.length c0_0) := (blk_cell BK292.out 0).trans rfl; have hcz5_1 : w4.cell? ⟨gb292, 1, none⟩ = some (.int .i64 a0_1) := (blk_cell BK292.out 1).trans rfl; have hfz5_0 := blk_frozen BK292.out 0; have hfz5_1 := blk_frozen BK292.out 1) | ((with_reducible refine gate_callee (f := 16) rfl ?_); refine goesL_ (some 16) rfl rfl Try.func16 (by kernel_rfl) rfl #[.agg #[.slice A0_0 l0_0.length c0_0, .int .i64 a0_1], .int .i64 1048576] rfl (by (try simp only [List.map_toArray, List.map_cons, List.map_nil]); first | done | rfl | (simp only [List.length_drop, List.length_take]; rfl)) ?_; (with_reducible refine (laws_szParty.calls _ _ l0_0 a0_1 1048576 t293 _ ?side1 ?side2 A2.out).mono ?_); (case side1 => repeat (first | exact (Kd.C_below HR0_0.out HB.out) | (with_reducible refine ca' ?_ _) | (with_reducible refine cn' ?_ _) | (with_reducible refine cd' ?_))); (case side2 => exact HC0_0.out); rintro e w6 ⟨rfl, hb⟩; refine ⟨_, rfl, ?_⟩; have n0_ := am' (blk_below (g := gb292) (o := .cells #[.slice A0_0 l0_0.length c0_0, .int .i64 a0_1] 24 (0, 0)) (by (with_reducible repeat (first | refine kn' ?_ _ | refine kd' ?_ | refine ka' ?_ _)); exact BK292.out) hb); have n1_ := am' (below_step (by repeat (first | (with_reducible first | exact HB.out | apply ba' | apply bd' | apply be' | refine bs' ?_ GE292.out) | exact HB.out)) hb); clear BK292; clear HB; have BK292 := n0_; have HB := n1_; clear n0_ n1_; (try clear hb); (try clear hb2); (try clear hk); (try clear hi)))
 (try simp only [Act.put, sa', sb', sc'])
 go_cut [] (fun wc => ∃ (kq : Nat), Aside0 (laws_FnExactTimesBySeats.j0 kq l0_0 a0_1 = some r) ∧ Aside0 (kq ≤ k) ∧ Aside0 (wc.heap[gb292]? = some (.cells #[(.slice A0_0 l0_0.length c0_0), .int .i64 a0_1] 24 (0, 0))) ∧ Aside0 (Below w.heap.size w wc))
 case first =>
  have H := HC3.out
  clear HC3; by_cases c7 : t293 < 0
  ·
   rw [if_pos c7] at H; have c7b0 : decide (t293 < 0) = true := decide_eq_true c7
   clear c7; (first | rw [c7b0] | (simp only [i64_w, i32_w]; rw [c7b0]) | skip)
   obtain rfl := Option.some.inj H
   go_wp2
   go_ret
   exact ⟨by first | rfl | (simp [errW_none, errW_some] <;> rfl) | (simp [*, errW_none, errW_some] <;> rfl), by repeat (first | (with_reducible first | exact HB.out | apply ba' | apply bd' | apply be' | refine bs' ?_ GE292.out) | exact HB.out)⟩
  ·
   rw [if_neg c7] at H; have c7b0 : decide (t293 < 0) = false := decide_eq_false c7
   clear c7; (first | rw [c7b0] | (simp only [i64_w, i32_w]; rw [c7b0]) | skip)
   have H' := am' H
   clear H; go_wp2
   go_meet
   case rel => exact ⟨_, H', ⟨by first | omega | exact Nat.le_refl _⟩, ⟨by (with_reducible repeat (first | refine kn' ?_ _ | refine kd' ?_ | refine ka' ?_ _)); exact BK292.out⟩, ⟨by repeat (first | (with_reducible first | exact HB.out | apply ba' | apply bd' | apply be' | refine bs' ?_ GE292.out) | exact HB.out)⟩⟩
 case rest =>
  clear HC3; try clear c1
  try clear p2
  try clear c7
  try clear c7b0
  try clear hcz5_0
  try clear hcz5_1
  try clear hfz5_0
  try clear hfz5_1
  obtain ⟨kq, HA, HJ2, BK292, HB⟩ := hcut
  cases kq with
  | zero => exact absurd HA.out (by simp [laws_FnExactTimesBySeats.j0])
  | succ kj2 =>
   have H := HA.out
   clear HA; simp only [laws_FnExactTimesBySeats.j0] at H
   replace H := Option.bind_eq_some_iff.mp H
   obtain ⟨⟨t294, t297⟩, A80, H⟩ := H
   replace H : ((spec_TimesBySeats.f kj2 t294 t297).bind fun bt298 => ((laws_toParty.f kj2 l0_0 a0_1).bind fun bt302 => ((impl_TimesBySeats.f kj2 bt302.1 bt302.2).bind fun bt307 => ((laws_eqIntS.f kj2 bt307.1 bt298.1).bind fun t311 => (if t311 = true then (laws_FnExactTimesBySeats.j1 kj2 bt298.1 bt298.2 bt307.1 bt307.2 (bt307.2 != bt298.2) l0_0 a0_1 bt302.1 bt302.2) else (laws_FnExactTimesBySeats.j1 kj2 bt298.1 bt298.2 bt307.1 bt307.2 true l0_0 a0_1 bt302.1 bt302.2)))))) = some r := H
   have A8 := am' A80
   clear A80; replace H := Option.bind_eq_some_iff.mp H
   obtain ⟨⟨t298, t301⟩, A90, H⟩ := H
   replace H : ((laws_toParty.f kj2 l0_0 a0_1).bind fun bt302 => ((impl_TimesBySeats.f kj2 bt302.1 bt302.2).bind fun bt307 => ((laws_eqIntS.f kj2 bt307.1 t298).bind fun t311 => (if t311 = true then (laws_FnExactTimesBySeats.j1 kj2 t298 t301 bt307.1 bt307.2 (bt307.2 != t301) l0_0 a0_1 bt302.1 bt302.2) else (laws_FnExactTimesBySeats.j1 kj2 t298 t301 bt307.1 bt307.2 true l0_0 a0_1 bt302.1 bt302.2))))) = some r := H
   have A9 := am' A90
   clear A90; replace H := Option.bind_eq_some_iff.mp H
   obtain ⟨⟨t302, t305⟩, A100, H⟩ := H
   replace H : ((impl_TimesBySeats.f kj2 t302 t305).bind fun bt307 => ((laws_eqIntS.f kj2 bt307.1 t298).bind fun t311 => (if t311 = true then (laws_FnExactTimesBySeats.j1 kj2 t298 t301 bt307.1 bt307.2 (bt307.2 != t301) l0_0 a0_1 t302 t305) else (laws_FnExactTimesBySeats.j1 kj2 t298 t301 bt307.1 bt307.2 true l0_0 a0_1 t302 t305)))) = some r := H
   have A10 := am' A100
   clear A100; replace H := Option.bind_eq_some_iff.mp H
   obtain ⟨⟨t307, t310⟩, A110, H⟩ := H
   replace H : ((laws_eqIntS.f kj2 t307 t298).bind fun t311 => (if t311 = true then (laws_FnExactTimesBySeats.j1 kj2 t298 t301 t307 t310 (t310 != t301) l0_0 a0_1 t302 t305) else (laws_FnExactTimesBySeats.j1 kj2 t298 t301 t307 t310 true l0_0 a0_1 t302 t305))) = some r := H
   have A11 := am' A110
   clear A110; have HC12 := am' H
   clear H; have hcz13_0 : wc.cell? ⟨gb292, 0, none⟩ = some (.slice A0_0 l0_0.length c0_0) := (blk_cell BK292.out 0).trans rfl
   have hcz13_1 : wc.cell? ⟨gb292, 1, none⟩ = some (.int .i64 a0_1) := (blk_cell BK292.out 1).trans rfl
   have hfz13_0 := blk_frozen BK292.out 0
   have hfz13_1 := blk_frozen BK292.out 1
   go_upto_region 8 with (first | ((with_reducible refine gate_callee (f := 18) rfl ?_); refine goesL_ (some 21) rfl rfl Try.func18 (by kernel_rfl) rfl #[.agg #[.slice A0_0 l0_0.length c0_0, .int .i64 a0_1]] rfl (by (try simp only [List.map_toArray, List.map_cons, List.map_nil]); first | done | rfl | (simp only [List.length_drop, List.length_take]; rfl)) ?_; (with_reducible refine (laws_toParty.calls kj2 _ _ l0_0 a0_1 t294 t297 _ ?side1 ?side2 A8.out).mono ?_); (case side1 => repeat (first | exact (Kd.C_below HR0_0.out HB.out) | (with_reducible refine ca' ?_ _) | (with_reducible refine cn' ?_ _) | (with_reducible refine cd' ?_))); (case side2 => exact HC0_0.out); rintro e w14 ⟨v295, rfl, ho0, hb⟩; refine ⟨_, rfl, ?_⟩; obtain ⟨D333_, hdl_, hdg_⟩ := dlt_of hb; have D333_lt := am' hdl_; have D333_ge := am' hdg_; clear hdl_ hdg_; have n0_ := am' (Kd.R_lower (Kd.R_dge ho0 D333_ge.out) (below_size (by repeat (first | (with_reducible first | exact HB.out | apply ba' | apply bd' | apply be' | refine bs' ?_ GE292.out) | exact HB.out)))); have n1_ := am' (blk_below (g := gb292) (o := .cells #[.slice A0_0 l0_0.length c0_0, .int .i64 a0_1] 24 (0, 0)) (by (with_reducible repeat (first | refine kn' ?_ _ | refine kd' ?_ | refine ka' ?_ _)); exact BK292.out) hb); have n2_ := am' (below_step (by repeat (first | (with_reducible first | exact HB.out | apply ba' | apply bd' | apply be' | refine bs' ?_ GE292.out) | exact HB.out)) hb); clear BK292; clear HB; have HO296 := n0_; have BK292 := n1_; have HB := n2_; clear n0_ n1_ n2_; (try clear hb); (try clear hb2); (try clear hk); (try clear hi); (try clear ho0); obtain ⟨Ao15, co15, eo15⟩ := Kd.R_slice HO296.out; subst eo15) | ((with_reducible refine gate_callee (f := 29) rfl ?_); refine goesL_ (some 22) rfl rfl Try.func29 (by kernel_rfl) rfl #[.agg #[.slice Ao15 t294.length co15, .int .i64 t297]] rfl (by (try simp only [List.map_toArray, List.map_cons, List.map_nil]); first | done | rfl | (simp only [List.length_drop, List.length_take]; rfl)) ?_; (with_reducible refine (spec_TimesBySeats.calls kj2 _ _ t294 t297 t298 t301 _ ?side1 ?side2 A9.out).mono ?_); (case side1 => repeat (first | exact (Kd.R_reads' HO296.out).2.2 | (with_reducible refine ca' ?_ _) | (with_reducible refine cn' ?_ _) | (with_reducible refine cd' ?_))); (case side2 => exact (Kd.R_reads' HO296.out).2.1); rintro e w16 ⟨v299, rfl, ho0, hb⟩; refine ⟨_, rfl, ?_⟩; obtain ⟨D334_, hdl_, hdg_⟩ := dlt_of hb; have D334_lt := am' hdl_; have D334_ge := am' hdg_; clear hdl_ hdg_; have n0_ := am' (Kd.R_elder' (Kd.R_dlt (by (with_reducible repeat (first | apply ra' | apply rn' | apply rw')); exact HO296.out) D334_lt.out) (Kd.R_base ho0) hb); have n1_ := am' (Kd.R_lower (Kd.R_new' (Kd.R_dge ho0 D334_ge.out) (Kd.R_lt (by (with_reducible repeat (first | apply ra' | apply rn' | apply rw')); exact HO296.out))) (below_size (by repeat (first | (with_reducible first | exact HB.out | apply ba' | apply bd' | apply be' | refine bs' ?_ GE292.out) | exact HB.out)))); have n2_ := am' (blk_below (g := gb292) (o := .cells #[.slice A0_0 l0_0.length c0_0, .int .i64 a0_1] 24 (0, 0)) (by (with_reducible repeat (first | refine kn' ?_ _ | refine kd' ?_ | refine ka' ?_ _)); exact BK292.out) hb); have n3_ := am' (below_step (by repeat (first | (with_reducible first | exact HB.out | apply ba' | apply bd' | apply be' | refine bs' ?_ GE292.out) | exact HB.out)) hb); clear HO296; clear BK292; clear HB; have HO296 := n0_; have HO300 := n1_; have BK292 := n2_; have HB := n3_; clear n0_ n1_ n2_ n3_; (try clear hb); (try clear hb2); (try clear hk); (try clear hi); (try clear ho0); have hcz17_0 : w16.cell? ⟨gb292, 0, none⟩ = some (.slice A0_0 l0_0.length c0_0) := (blk_cell BK292.out 0).trans rfl; have hcz17_1 : w16.cell? ⟨gb292, 1, none⟩ = some (.int .i64 a0_1) := (blk_cell BK292.out 1).trans rfl; have hfz17_0 := blk_frozen BK292.out 0; have hfz17_1 := blk_frozen BK292.out 1) | ((with_reducible refine gate_callee (f := 18) rfl ?_); refine goesL_ (some 26) rfl rfl Try.func18 (by kernel_rfl) rfl #[.agg #[.slice A0_0 l0_0.length c0_0, .int .i64 a0_1]] rfl (by (try simp only [List.map_toArray, List.map_cons, List.map_nil]); first | done | rfl | (simp only [List.length_drop, List.length_take]; rfl)) ?_; (with_reducible refine (laws_toParty.calls kj2 _ _ l0_0 a0_1 t302 t305 _ ?side1 ?side2 A10.out).mono ?_); (case side1 => repeat (first | exact (Kd.C_below HR0_0.out HB.out) | (with_reducible refine ca' ?_ _) | (with_reducible refine cn' ?_ _) | (with_reducible refine cd' ?_))); (case side2 => exact HC0_0.out); rintro e w18 ⟨v303, rfl, ho0, hb⟩; refine ⟨_, rfl, ?_⟩; obtain ⟨D335_, hdl_, hdg_⟩ := dlt_of hb; have D335_lt := am' hdl_; have D335_ge := am' hdg_; clear hdl_ hdg_; have n0_ := am' (Kd.R_elder' (Kd.R_dlt (by (with_reducible repeat (first | apply ra' | apply rn' | apply rw')); exact HO296.out) D335_lt.out) (Kd.R_base ho0) hb); have n1_ := am' (Kd.R_elder' (Kd.R_dlt (by (with_reducible repeat (first | apply ra' | apply rn' | apply rw')); exact HO300.out) D335_lt.out) (Kd.R_base ho0) hb); have n2_ := am' (Kd.R_lower (Kd.R_new' (Kd.R_new' (Kd.R_dge ho0 D335_ge.out) (Kd.R_lt (by (with_reducible repeat (first | apply ra' | apply rn' | apply rw')); exact HO296.out))) (Kd.R_lt (by (with_reducible repeat (first | apply ra' | apply rn' | apply rw')); exact HO300.out))) (below_size (by repeat (first | (with_reducible first | exact HB.out | apply ba' | apply bd' | apply be' | refine bs' ?_ GE292.out) | exact HB.out)))); have n3_ := am' (blk_below (g := gb292) (o := .cells #[.slice A0_0 l0_0.length c0_0, .int .i64 a0_1] 24 (0, 0)) (by (with_reducible repeat (first | refine kn' ?_ _ | refine kd' ?_ | refine ka' ?_ _)); exact BK292.out) hb); have n4_ := am' (below_step (by repeat (first | (with_reducible first | exact HB.out | apply ba' | apply bd' | apply be' | refine bs' ?_ GE292.out) | exact HB.out)) hb); clear HO296; clear HO300; clear BK292; clear HB; have HO296 := n0_; have HO300 := n1_; have HO304 := n2_; have BK292 := n3_; have HB := n4_; clear n0_ n1_ n2_ n3_ n4_; (try clear hb); (try clear hb2); (try clear hk); (try clear hi); (try clear ho0)) | ((with_reducible refine gate_dst (N := 6) rfl ?_); refine box_event ?hg (N := 6) ?hd (cs := #[.slice none 0 0, .int .i64 0]) (t := 28) ?hr ?_; (case hd => rfl); (case hg => rfl); (case hr => first | (go_simp; done) | (go_simp; rfl)); intro gb306 hg w19 hbox hb; have n0_ := am' (Kd.R_below (by (with_reducible repeat (first | apply ra' | apply rn' | apply rw')); exact HO296.out) hb); have n1_ := am' (Kd.R_below (by (with_reducible repeat (first | apply ra' | apply rn' | apply rw')); exact HO300.out) hb); have n2_ := am' (Kd.R_below (by (with_reducible repeat (first | apply ra' | apply rn' | apply rw')); exact HO304.out) hb); have n3_ := am' (blk_below (g := gb292) (o := .cells #[.slice A0_0 l0_0.length c0_0, .int .i64 a0_1] 24 (0, 0)) (by (with_reducible repeat (first | refine kn' ?_ _ | refine kd' ?_ | refine ka' ?_ _)); exact BK292.out) hb); have n4_ := am' (below_step (by repeat (first | (with_reducible first | exact HB.out | apply ba' | apply bd' | apply be' | refine bs' ?_ GE292.out) | exact HB.out)) hb); have n5_ := am' (hbox); have n6_ := am' ((by rw [hg]; exact (below_size (by repeat (first | (with_reducible first | exact HB.out | apply ba' | apply bd' | apply be' | refine bs' ?_ GE292.out) | exact HB.out))) : w.heap.size ≤ gb306)); have n7_ := am' ((by rw [hg]; exact (below_size (by repeat (first | (with_reducible first | exact HB.out | apply ba' | apply bd' | apply be' | refine bs' ?_ GE292.out) | exact HB.out))) : w.heap.size ≤ gb306)); have n8_ := am' ((by rw [hg]; exact Nat.ne_of_lt (blk_lt (g := gb292) (o := .cells #[.slice A0_0 l0_0.length c0_0, .int .i64 a0_1] 24 (0, 0)) (by (with_reducible repeat (first | refine kn' ?_ _ | refine kd' ?_ | refine ka' ?_ _)); exact BK292.out)) : gb292 ≠ gb306)); have n9_ := am' ((by rw [hg]; exact Nat.ne_of_gt (blk_lt (g := gb292) (o := .cells #[.slice A0_0 l0_0.length c0_0, .int .i64 a0_1] 24 (0, 0)) (by (with_reducible repeat (first | refine kn' ?_ _ | refine kd' ?_ | refine ka' ?_ _)); exact BK292.out)) : gb306 ≠ gb292)); clear HO296; clear HO300; clear HO304; clear BK292; clear HB; have HO296 := n0_; have HO300 := n1_; have HO304 := n2_; have BK292 := n3_; have HB := n4_; have BK306 := n5_; have GW306 := n6_; have GE306 := n7_; have NB292_306 := n8_; have NB306_292 := n9_; clear n0_ n1_ n2_ n3_ n4_ n5_ n6_ n7_ n8_ n9_; clear hb hbox hg; obtain ⟨Ao20, co20, eo20⟩ := Kd.R_slice HO304.out; subst eo20; have hnb21 := NB306_292.out; have hnc21 := NB292_306.out; have hcz22_0 : w19.cell? ⟨gb306, 0, none⟩ = some (.slice none 0 0) := (blk_cell BK306.out 0).trans rfl; have hcz22_1 : w19.cell? ⟨gb306, 1, none⟩ = some (.int .i64 0) := (blk_cell BK306.out 1).trans rfl; have hfz22_0 := blk_frozen BK306.out 0; have hfz22_1 := blk_frozen BK306.out 1) | ((with_reducible refine gate_callee (f := 30) rfl ?_); refine goesL_ (some 29) rfl rfl Try.func30 (by kernel_rfl) rfl #[.agg #[.slice Ao20 t302.length co20, .int .i64 t305]] rfl (by (try simp only [List.map_toArray, List.map_cons, List.map_nil]); first | done | rfl | (simp only [List.length_drop, List.length_take]; rfl)) ?_; (with_reducible refine (impl_TimesBySeats.calls kj2 _ _ t302 t305 t307 t310 _ ?side1 ?side2 A11.out).mono ?_); (case side1 => refine (Kd.R_reads' (e := 3) (base := w.heap.size) (ok := fun k_ => (((True ∧ ¬ D335_ k_) ∧ some k_ ≠ (.slice Ao15 t294.length co15 : Value).ownBlock) ∧ some k_ ≠ (v299 : Value).ownBlock)) (n := t302.length) (c := co20) ?_).2.2; exact (by (with_reducible repeat (first | apply ra' | apply rn' | apply rw')); exact (Kd.R_mono (Kd.R_far (p := ⟨gb306, 1, none⟩) (Kd.R_far (p := ⟨gb306, 0, none⟩) (Kd.R_types HO304.out BK306.out (by decide)) (fun _ hk => hk.2) (.slice Ao20 t302.length co20)) (fun _ hk => hk.2) (.int .i64 t305)) (fun _ h_ => h_.1)))); (case side2 => exact (Kd.R_reads' HO304.out).2.1); rintro e w23 ⟨v308, rfl, ho0, hb⟩; refine ⟨_, rfl, ?_⟩; obtain ⟨D336_, hdl_, hdg_⟩ := dlt_of hb; have D336_lt := am' hdl_; have D336_ge := am' hdg_; clear hdl_ hdg_; have n0_ := am' (Kd.R_elder' (Kd.R_dlt (by (with_reducible repeat (first | apply ra' | apply rn' | apply rw')); exact (Kd.R_mono (Kd.R_far (p := ⟨gb306, 1, none⟩) (Kd.R_far (p := ⟨gb306, 0, none⟩) (Kd.R_types HO296.out BK306.out (by decide)) (fun _ hk => hk.2) (.slice Ao20 t302.length co20)) (fun _ hk => hk.2) (.int .i64 t305)) (fun _ h_ => h_.1))) D336_lt.out) (Kd.R_base ho0) hb); have n1_ := am' (Kd.R_elder' (Kd.R_dlt (by (with_reducible repeat (first | apply ra' | apply rn' | apply rw')); exact (Kd.R_mono (Kd.R_far (p := ⟨gb306, 1, none⟩) (Kd.R_far (p := ⟨gb306, 0, none⟩) (Kd.R_types HO300.out BK306.out (by decide)) (fun _ hk => hk.2) (.slice Ao20 t302.length co20)) (fun _ hk => hk.2) (.int .i64 t305)) (fun _ h_ => h_.1))) D336_lt.out) (Kd.R_base ho0) hb); have n2_ := am' (Kd.R_elder' (Kd.R_dlt (by (with_reducible repeat (first | apply ra' | apply rn' | apply rw')); exact (Kd.R_mono (Kd.R_far (p := ⟨gb306, 1, none⟩) (Kd.R_far (p := ⟨gb306, 0, none⟩) (Kd.R_types HO304.out BK306.out (by decide)) (fun _ hk => hk.2) (.slice Ao20 t302.length co20)) (fun _ hk => hk.2) (.int .i64 t305)) (fun _ h_ => h_.1))) D336_lt.out) (Kd.R_base ho0) hb); have n3_ := am' (Kd.R_lower (Kd.R_new' (Kd.R_new' (Kd.R_new' (Kd.R_dge ho0 D336_ge.out) (Kd.R_lt (by (with_reducible repeat (first | apply ra' | apply rn' | apply rw')); exact (Kd.R_mono (Kd.R_far (p := ⟨gb306, 1, none⟩) (Kd.R_far (p := ⟨gb306, 0, none⟩) (Kd.R_types HO296.out BK306.out (by decide)) (fun _ hk => hk.2) (.slice Ao20 t302.length co20)) (fun _ hk => hk.2) (.int .i64 t305)) (fun _ h_ => h_.1))))) (Kd.R_lt (by (with_reducible repeat (first | apply ra' | apply rn' | apply rw')); exact (Kd.R_mono (Kd.R_far (p := ⟨gb306, 1, none⟩) (Kd.R_far (p := ⟨gb306, 0, none⟩) (Kd.R_types HO300.out BK306.out (by decide)) (fun _ hk => hk.2) (.slice Ao20 t302.length co20)) (fun _ hk => hk.2) (.int .i64 t305)) (fun _ h_ => h_.1))))) (Kd.R_lt (by (with_reducible repeat (first | apply ra' | apply rn' | apply rw')); exact (Kd.R_mono (Kd.R_far (p := ⟨gb306, 1, none⟩) (Kd.R_far (p := ⟨gb306, 0, none⟩) (Kd.R_types HO304.out BK306.out (by decide)) (fun _ hk => hk.2) (.slice Ao20 t302.length co20)) (fun _ hk => hk.2) (.int .i64 t305)) (fun _ h_ => h_.1))))) (below_size (by repeat (first | (with_reducible first | exact HB.out | apply ba' | apply bd' | apply be' | refine bs' ?_ GE292.out | refine bs' ?_ GE306.out) | exact HB.out)))); have n4_ := am' (blk_below (g := gb292) (o := .cells #[.slice A0_0 l0_0.length c0_0, .int .i64 a0_1] 24 (0, 0)) (by (with_reducible repeat (first | refine kn' ?_ _ | refine kd' ?_ | refine ka' ?_ _)); refine blk_far ?_ NB292_306.out _; (with_reducible repeat (first | refine kn' ?_ _ | refine kd' ?_ | refine ka' ?_ _)); refine blk_far ?_ NB292_306.out _; (with_reducible repeat (first | refine kn' ?_ _ | refine kd' ?_ | refine ka' ?_ _)); exact BK292.out) hb); have n5_ := am' (blk_below (g := gb306) (o := .cells #[.slice Ao20 t302.length co20, .int .i64 t305] 28 (0, 0)) (by (with_reducible repeat (first | refine kn' ?_ _ | refine kd' ?_ | refine ka' ?_ _)); refine blk_put (cs := #[.slice Ao20 t302.length co20, .int .i64 0]) ?_ 1 _ rfl; (with_reducible repeat (first | refine kn' ?_ _ | refine kd' ?_ | refine ka' ?_ _)); refine blk_put (cs := #[.slice none 0 0, .int .i64 0]) ?_ 0 _ rfl; (with_reducible repeat (first | refine kn' ?_ _ | refine kd' ?_ | refine ka' ?_ _)); exact BK306.out) hb); have n6_ := am' (below_step (by repeat (first | (with_reducible first | exact HB.out | apply ba' | apply bd' | apply be' | refine bs' ?_ GE292.out | refine bs' ?_ GE306.out) | exact HB.out)) hb); clear HO296; clear HO300; clear HO304; clear BK292; clear BK306; clear HB; have HO296 := n0_; have HO300 := n1_; have HO304 := n2_; have HO309 := n3_; have BK292 := n4_; have BK306 := n5_; have HB := n6_; clear n0_ n1_ n2_ n3_ n4_ n5_ n6_; (try clear hb); (try clear hb2); (try clear hk); (try clear hi); (try clear ho0)))
   (try simp only [Act.put, sa', sb', sc'])
   go_cut [40] (fun v40 wc => ∃ (kq : Nat) (x40_11 : Bool), v40 = .bool x40_11 ∧ Aside0 (laws_FnExactTimesBySeats.j1 kq t298 t301 t307 t310 x40_11 l0_0 a0_1 t302 t305 = some r) ∧ Aside0 (kq ≤ kj2) ∧ Aside0 (Kd.R (Kd.int .i64) 3 wc w.heap.size (fun k_ => some k_ ≠ (v308 : Value).ownBlock ∧ some k_ ≠ ((.slice Ao20 t302.length co20) : Value).ownBlock ∧ ¬ D334_ k_ ∧ D335_ k_ ∧ D336_ k_) v299 t298) ∧ Aside0 (Kd.R (Kd.int .i64) 3 wc w.heap.size (fun k_ => some k_ ≠ (v299 : Value).ownBlock ∧ some k_ ≠ ((.slice Ao20 t302.length co20) : Value).ownBlock ∧ ¬ D336_ k_) v308 t307) ∧ Aside0 (Kd.R (Kd.int .i64) 3 wc w.heap.size (fun k_ => some k_ ≠ (v299 : Value).ownBlock ∧ some k_ ≠ (v308 : Value).ownBlock ∧ ¬ D335_ k_ ∧ D336_ k_) (.slice Ao20 t302.length co20) t302) ∧ Aside0 (wc.heap[gb292]? = some (.cells #[(.slice A0_0 l0_0.length c0_0), .int .i64 a0_1] 24 (0, 0))) ∧ Aside0 (wc.heap[gb306]? = some (.cells #[(.slice Ao20 t302.length co20), .int .i64 t305] 28 (0, 0))) ∧ Aside0 (Below w.heap.size w wc))
   case first =>
    have H := HC12.out
    clear HC12; replace H := Option.bind_eq_some_iff.mp H
    obtain ⟨t311, A240, H⟩ := H
    replace H : (if t311 = true then (laws_FnExactTimesBySeats.j1 kj2 t298 t301 t307 t310 (t310 != t301) l0_0 a0_1 t302 t305) else (laws_FnExactTimesBySeats.j1 kj2 t298 t301 t307 t310 true l0_0 a0_1 t302 t305)) = some r := H
    have A24 := am' A240
    clear A240; by_cases c25 : t311 = true
    ·
     subst c25; have H1 : (laws_FnExactTimesBySeats.j1 kj2 t298 t301 t307 t310 (t310 != t301) l0_0 a0_1 t302 t305) = some r := by rw [if_pos rfl] at H; exact H
     clear H; have H := H1; clear H1; have H' := am' H
     clear H; obtain ⟨Ao26, co26, eo26⟩ := Kd.R_slice HO309.out
     subst eo26; obtain ⟨Ao27, co27, eo27⟩ := Kd.R_slice HO300.out
     subst eo27; go_wp2_with (first | ((with_reducible refine gate_callee (f := 31) rfl ?_); refine goesL_ (some 34) rfl rfl Try.func31 (by kernel_rfl) rfl #[.slice Ao26 t307.length co26, .slice Ao27 t298.length co27] rfl (by (try simp only [List.map_toArray, List.map_cons, List.map_nil]); first | done | rfl | (simp only [List.length_drop, List.length_take]; rfl)) ?_; (with_reducible refine (laws_eqIntS.calls kj2 _ _ t307 _ _ t298 true _ ?side1 ?side2 ?side3 ?side4 A24.out).mono ?_); (case side1 => repeat (first | exact (Kd.R_reads' HO309.out).2.2 | (with_reducible refine ca' ?_ _) | (with_reducible refine cn' ?_ _) | (with_reducible refine cd' ?_))); (case side2 => exact (Kd.R_reads' HO309.out).2.1); (case side3 => repeat (first | exact (Kd.R_reads' HO300.out).2.2 | (with_reducible refine ca' ?_ _) | (with_reducible refine cn' ?_ _) | (with_reducible refine cd' ?_))); (case side4 => exact (Kd.R_reads' HO300.out).2.1); rintro e w' ⟨rfl, ⟨nd, rfl⟩⟩; refine ⟨_, rfl, ?_⟩))
     go_meet
     case rel => exact ⟨_, ((t310 != t301)), (by first | rfl | (simp; done) | (simp [*]; done)), H', ⟨by have := HJ2.out; first | omega | exact Nat.le_refl _⟩, ⟨by (with_reducible repeat (first | apply ra' | apply rn' | apply rw')); exact Kd.R_mono HO300.out (fun _ hk => ⟨hk.2, ⟨hk.1.1.2, ⟨hk.1.1.1.1.1.2, ⟨hk.1.1.1.2, hk.1.2⟩⟩⟩⟩)⟩, ⟨by (with_reducible repeat (first | apply ra' | apply rn' | apply rw')); exact Kd.R_mono HO309.out (fun _ hk => ⟨hk.1.2, ⟨hk.2, hk.1.1.1.2⟩⟩)⟩, ⟨by (with_reducible repeat (first | apply ra' | apply rn' | apply rw')); exact Kd.R_mono HO304.out (fun _ hk => ⟨hk.1.1.2, ⟨hk.2, ⟨hk.1.1.1.1.2, hk.1.2⟩⟩⟩)⟩, ⟨by (with_reducible repeat (first | refine kn' ?_ _ | refine kd' ?_ | refine ka' ?_ _)); exact BK292.out⟩, ⟨by (with_reducible repeat (first | refine kn' ?_ _ | refine kd' ?_ | refine ka' ?_ _)); exact BK306.out⟩, ⟨by repeat (first | (with_reducible first | exact HB.out | apply ba' | apply bd' | apply be' | refine bs' ?_ GE292.out | refine bs' ?_ GE306.out) | exact HB.out)⟩⟩
    ·
     replace c25 := Bool.eq_false_iff.mpr c25
     subst c25; have H1 : (laws_FnExactTimesBySeats.j1 kj2 t298 t301 t307 t310 true l0_0 a0_1 t302 t305) = some r := by rw [if_neg (show ¬ (false = true) by decide)] at H; exact H
     clear H; have H := H1; clear H1; have H' := am' H
     clear H; obtain ⟨Ao28, co28, eo28⟩ := Kd.R_slice HO309.out
     subst eo28; obtain ⟨Ao29, co29, eo29⟩ := Kd.R_slice HO300.out
     subst eo29; go_wp2_with (first | ((with_reducible refine gate_callee (f := 31) rfl ?_); refine goesL_ (some 34) rfl rfl Try.func31 (by kernel_rfl) rfl #[.slice Ao28 t307.length co28, .slice Ao29 t298.length co29] rfl (by (try simp only [List.map_toArray, List.map_cons, List.map_nil]); first | done | rfl | (simp only [List.length_drop, List.length_take]; rfl)) ?_; (with_reducible refine (laws_eqIntS.calls kj2 _ _ t307 _ _ t298 false _ ?side1 ?side2 ?side3 ?side4 A24.out).mono ?_); (case side1 => repeat (first | exact (Kd.R_reads' HO309.out).2.2 | (with_reducible refine ca' ?_ _) | (with_reducible refine cn' ?_ _) | (with_reducible refine cd' ?_))); (case side2 => exact (Kd.R_reads' HO309.out).2.1); (case side3 => repeat (first | exact (Kd.R_reads' HO300.out).2.2 | (with_reducible refine ca' ?_ _) | (with_reducible refine cn' ?_ _) | (with_reducible refine cd' ?_))); (case side4 => exact (Kd.R_reads' HO300.out).2.1); rintro e w' ⟨rfl, ⟨nd, rfl⟩⟩; refine ⟨_, rfl, ?_⟩))
     go_meet
     case rel => exact ⟨_, (true), (by first | rfl | (simp; done) | (simp [*]; done)), H', ⟨by have := HJ2.out; first | omega | exact Nat.le_refl _⟩, ⟨by (with_reducible repeat (first | apply ra' | apply rn' | apply rw')); exact Kd.R_mono HO300.out (fun _ hk => ⟨hk.2, ⟨hk.1.1.2, ⟨hk.1.1.1.1.1.2, ⟨hk.1.1.1.2, hk.1.2⟩⟩⟩⟩)⟩, ⟨by (with_reducible repeat (first | apply ra' | apply rn' | apply rw')); exact Kd.R_mono HO309.out (fun _ hk => ⟨hk.1.2, ⟨hk.2, hk.1.1.1.2⟩⟩)⟩, ⟨by (with_reducible repeat (first | apply ra' | apply rn' | apply rw')); exact Kd.R_mono HO304.out (fun _ hk => ⟨hk.1.1.2, ⟨hk.2, ⟨hk.1.1.1.1.2, hk.1.2⟩⟩⟩)⟩, ⟨by (with_reducible repeat (first | refine kn' ?_ _ | refine kd' ?_ | refine ka' ?_ _)); exact BK292.out⟩, ⟨by (with_reducible repeat (first | refine kn' ?_ _ | refine kd' ?_ | refine ka' ?_ _)); exact BK306.out⟩, ⟨by repeat (first | (with_reducible first | exact HB.out | apply ba' | apply bd' | apply be' | refine bs' ?_ GE292.out | refine bs' ?_ GE306.out) | exact HB.out)⟩⟩
   case rest =>
    clear HC12; try clear c1
    try clear c2
    try clear p2
    try clear c3
    try clear c7
    try clear c7b0
    try clear c8
    try clear c16
    try clear c18
    try clear c21
    try clear c25
    try clear c29
    try clear hcz13_0
    try clear hcz13_1
    try clear hcz17_0
    try clear hcz17_1
    try clear hcz22_0
    try clear hcz22_1
    try clear hcz5_0
    try clear hcz5_1
    try clear hfz13_0
    try clear hfz13_1
    try clear hfz17_0
    try clear hfz17_1
    try clear hfz22_0
    try clear hfz22_1
    try clear hfz5_0
    try clear hfz5_1
    try clear p2
    obtain ⟨kq, x40_11, rfl, HA, HJ11, HO_4, HO_7, HO_307000, BK292, BK306, HB⟩ := hcut
    cases kq with
    | zero => exact absurd HA.out (by simp [laws_FnExactTimesBySeats.j1])
    | succ kj11 =>
     have H := HA.out
     clear HA; simp only [laws_FnExactTimesBySeats.j1] at H
     have HC30 := am' H
     clear H; go_upto_if 40 with (fail)
     go_cut [] (fun wc => ∃ (kq : Nat), Aside0 (laws_FnExactTimesBySeats.j2 kq t298 t301 t307 t310 l0_0 a0_1 t302 t305 = some r) ∧ Aside0 (kq ≤ kj11) ∧ Aside0 (Kd.R (Kd.int .i64) 3 wc w.heap.size (fun k_ => some k_ ≠ (v308 : Value).ownBlock ∧ some k_ ≠ ((.slice Ao20 t302.length co20) : Value).ownBlock ∧ ¬ D334_ k_ ∧ D335_ k_ ∧ D336_ k_) v299 t298) ∧ Aside0 (Kd.R (Kd.int .i64) 3 wc w.heap.size (fun k_ => some k_ ≠ (v299 : Value).ownBlock ∧ some k_ ≠ ((.slice Ao20 t302.length co20) : Value).ownBlock ∧ ¬ D336_ k_) v308 t307) ∧ Aside0 (Kd.R (Kd.int .i64) 3 wc w.heap.size (fun k_ => some k_ ≠ (v299 : Value).ownBlock ∧ some k_ ≠ (v308 : Value).ownBlock ∧ ¬ D335_ k_ ∧ D336_ k_) (.slice Ao20 t302.length co20) t302) ∧ Aside0 (wc.heap[gb292]? = some (.cells #[(.slice A0_0 l0_0.length c0_0), .int .i64 a0_1] 24 (0, 0))) ∧ Aside0 (wc.heap[gb306]? = some (.cells #[(.slice Ao20 t302.length co20), .int .i64 t305] 28 (0, 0))) ∧ Aside0 (Below w.heap.size w wc))
     case first =>
      have H := HC30.out
      clear HC30; by_cases c31 : x40_11 = true
      ·
       subst c31; have H1 : (some false) = some r := by rw [if_pos rfl] at H; exact H
       clear H; have H := H1; clear H1; obtain rfl := Option.some.inj H
       go_wp2
       go_ret
       exact ⟨by first | rfl | (simp [errW_none, errW_some] <;> rfl) | (simp [*, errW_none, errW_some] <;> rfl), by repeat (first | (with_reducible first | exact HB.out | apply ba' | apply bd' | apply be' | refine bs' ?_ GE292.out | refine bs' ?_ GE306.out) | exact HB.out)⟩
      ·
       replace c31 := Bool.eq_false_iff.mpr c31
       subst c31; have H1 : (laws_FnExactTimesBySeats.j2 kj11 t298 t301 t307 t310 l0_0 a0_1 t302 t305) = some r := by rw [if_neg (show ¬ (false = true) by decide)] at H; exact H
       clear H; have H := H1; clear H1; have H' := am' H
       clear H; go_wp2
       go_meet
       case rel => exact ⟨_, H', ⟨by have := HJ2.out; have := HJ11.out; first | omega | exact Nat.le_refl _⟩, ⟨by (with_reducible repeat (first | apply ra' | apply rn' | apply rw')); exact HO_4.out⟩, ⟨by (with_reducible repeat (first | apply ra' | apply rn' | apply rw')); exact HO_7.out⟩, ⟨by (with_reducible repeat (first | apply ra' | apply rn' | apply rw')); exact HO_307000.out⟩, ⟨by (with_reducible repeat (first | refine kn' ?_ _ | refine kd' ?_ | refine ka' ?_ _)); exact BK292.out⟩, ⟨by (with_reducible repeat (first | refine kn' ?_ _ | refine kd' ?_ | refine ka' ?_ _)); exact BK306.out⟩, ⟨by repeat (first | (with_reducible first | exact HB.out | apply ba' | apply bd' | apply be' | refine bs' ?_ GE292.out | refine bs' ?_ GE306.out) | exact HB.out)⟩⟩
     case rest =>
      clear HC30; try clear c1
      try clear c2
      try clear p2
      try clear c3
      try clear c7
      try clear c7b0
      try clear c8
      try clear c16
      try clear c18
      try clear c21
      try clear c25
      try clear c29
      try clear c30
      try clear c31
      try clear hcz13_0
      try clear hcz13_1
      try clear hcz17_0
      try clear hcz17_1
      try clear hcz22_0
      try clear hcz22_1
      try clear hcz5_0
      try clear hcz5_1
      try clear hfz13_0
      try clear hfz13_1
      try clear hfz17_0
      try clear hfz17_1
      try clear hfz22_0
      try clear hfz22_1
      try clear hfz5_0
      try clear hfz5_1
      try clear p2
      obtain ⟨kq, HA, HJ29, HO_4, HO_7, HO_307000, BK292, BK306, HB⟩ := hcut
      cases kq with
      | zero => exact absurd HA.out (by simp [laws_FnExactTimesBySeats.j2])
      | succ kj29 =>
       have H := HA.out
       clear HA; simp only [laws_FnExactTimesBySeats.j2] at H
       replace H := Option.bind_eq_some_iff.mp H
       obtain ⟨⟨t312, t315⟩, A320, H⟩ := H
       replace H : ((laws_eqParty.f kj29 t302 t305 t312 t315).bind fun t316 => (if t316 = true then (laws_FnExactTimesBySeats.j3 kj29 t298 t301 t307 t310 l0_0 a0_1 t302 t305) else (some false))) = some r := H
       have A32 := am' A320
       clear A320; replace H := Option.bind_eq_some_iff.mp H
       obtain ⟨t316, A330, H⟩ := H
       replace H : (if t316 = true then (laws_FnExactTimesBySeats.j3 kj29 t298 t301 t307 t310 l0_0 a0_1 t302 t305) else (some false)) = some r := H
       have A33 := am' A330
       clear A330; have HC34 := am' H
       clear H; try go_wp2
       have n0_ := am' (rw' HO_4.out)
       have n1_ := am' (rw' HO_7.out)
       have n2_ := am' (rw' HO_307000.out)
       have n3_ := am' (kd' BK292.out)
       have n4_ := am' (kd' BK306.out)
       have n5_ := am' (be' HB.out)
       clear HO_4; clear HO_7; clear HO_307000; clear BK292; clear BK306; clear HB; have HO_4 := n0_; have HO_7 := n1_; have HO_307000 := n2_; have BK292 := n3_; have BK306 := n4_; have HB := n5_; clear n0_ n1_ n2_ n3_ n4_ n5_; refine start_ (n := 5) (S := fun w' => w'.cell? ⟨gb306, 0, none⟩ = some (.slice Ao20 t302.length co20) ∧ w'.cell? ⟨gb306, 1, none⟩ = some (.int .i64 t305) ∧ w'.cell? ⟨gb292, 0, none⟩ = some (.slice A0_0 l0_0.length c0_0) ∧ w'.cell? ⟨gb292, 1, none⟩ = some (.int .i64 a0_1)) (ds := []) #[false, false, false, false, false] (by kernel_rfl) rfl rfl ⟨(blk_cell BK306.out 0).trans rfl, (blk_cell BK306.out 1).trans rfl, (blk_cell BK292.out 0).trans rfl, (blk_cell BK292.out 1).trans rfl⟩ (fun hHeld => ?_)
       generalize wc.drew = w35 at HO_4 HO_7 HO_307000 BK292 BK306 HB hHeld ⊢
       refine take_ (i := 0) (N := some 41) (v := ?_) (a' := ?_) #[true, false, false, false, false] rfl rfl (by kernel_rfl) (fun _ _ _ h => h) (Or.inl ⟨by rfl, ?_⟩) hHeld ?_ ?_
       rotate_left
       ·
        rintro w' ⟨s0, s1, s2, s3⟩
        go_simp; with_reducible rfl
       rotate_left
       ·
        simp only [Act.put, sa', sb', sc', i64_w, i32_w]
        rfl
       refine take_ (i := 1) (N := some 42) (v := ?_) (a' := ?_) #[true, true, false, false, false] rfl rfl (by kernel_rfl) (fun _ _ _ h => h) (Or.inl ⟨by rfl, ?_⟩) hHeld ?_ ?_
       rotate_left
       ·
        rintro w' ⟨s0, s1, s2, s3⟩
        go_simp; with_reducible rfl
       rotate_left
       ·
        simp only [Act.put, sa', sb', sc', i64_w, i32_w]
        rfl
       refine one_ (i := 2) (N := some 43) #[true, true, true, false, false] rfl rfl (by kernel_rfl) (by decide) (fun K hK => ?_)
       refine goes_ Try.func18 (by kernel_rfl) rfl #[.agg #[.slice A0_0 l0_0.length c0_0, .int .i64 a0_1]] (by rfl) rfl rfl (by (try simp only [List.map_toArray, List.map_cons, List.map_nil]); first | done | rfl | (simp only [List.length_drop, List.length_take]; rfl)) ?_
       with_reducible refine (laws_toParty.calls kj29 _ _ l0_0 a0_1 t312 t315 _ ?side1 ?side2 A32.out).mono ?_
       (case side1 => repeat (first | exact (Kd.C_below HR0_0.out HB.out) | (with_reducible refine ca' ?_ _) | (with_reducible refine cn' ?_ _) | (with_reducible refine cd' ?_)))
       (case side2 => exact HC0_0.out)
       rintro e w36 ⟨v313, rfl, ho0, hb⟩
       refine ⟨_, rfl, ?_⟩
       have n0_ := am' (Kd.R_elder' (by (with_reducible repeat (first | apply ra' | apply rn' | apply rw')); exact HO_4.out) (Kd.R_base ho0) hb)
       have n1_ := am' (Kd.R_elder' (by (with_reducible repeat (first | apply ra' | apply rn' | apply rw')); exact HO_7.out) (Kd.R_base ho0) hb)
       have n2_ := am' (Kd.R_elder' (by (with_reducible repeat (first | apply ra' | apply rn' | apply rw')); exact HO_307000.out) (Kd.R_base ho0) hb)
       have n3_ := am' (Kd.R_lower (Kd.R_new' (Kd.R_new' (Kd.R_new' ho0 (Kd.R_lt (by (with_reducible repeat (first | apply ra' | apply rn' | apply rw')); exact HO_4.out))) (Kd.R_lt (by (with_reducible repeat (first | apply ra' | apply rn' | apply rw')); exact HO_7.out))) (Kd.R_lt (by (with_reducible repeat (first | apply ra' | apply rn' | apply rw')); exact HO_307000.out))) (below_size (by repeat (first | (with_reducible first | exact HB.out | apply ba' | apply bd' | apply be' | refine bs' ?_ GE292.out | refine bs' ?_ GE306.out) | exact HB.out))))
       have n4_ := am' (blk_below (g := gb292) (o := .cells #[.slice A0_0 l0_0.length c0_0, .int .i64 a0_1] 24 (0, 0)) (by (with_reducible repeat (first | refine kn' ?_ _ | refine kd' ?_ | refine ka' ?_ _)); exact BK292.out) hb)
       have n5_ := am' (blk_below (g := gb306) (o := .cells #[.slice Ao20 t302.length co20, .int .i64 t305] 28 (0, 0)) (by (with_reducible repeat (first | refine kn' ?_ _ | refine kd' ?_ | refine ka' ?_ _)); exact BK306.out) hb)
       have n6_ := am' (below_step (by repeat (first | (with_reducible first | exact HB.out | apply ba' | apply bd' | apply be' | refine bs' ?_ GE292.out | refine bs' ?_ GE306.out) | exact HB.out)) hb)
       clear HO_4; clear HO_7; clear HO_307000; clear BK292; clear BK306; clear HB; have HO_4 := n0_; have HO_7 := n1_; have HO_307000 := n2_; have HO314 := n3_; have BK292 := n4_; have BK306 := n5_; have HB := n6_; clear n0_ n1_ n2_ n3_ n4_ n5_ n6_; (try clear hb)
       (try clear hb2)
       (try clear hk)
       (try clear hi)
       (try clear ho0)
       obtain ⟨Ao37, co37, eo37⟩ := Kd.R_slice HO314.out
       (first | subst eo37 | (injection eo37 with f1_ f2_ f3_; have f4_ := f1_.symm; have f5_ := f3_.symm; clear f1_ f2_ f3_; subst f4_; subst f5_))
       refine hK.out _ _ ⟨(blk_cell BK306.out 0).trans rfl, (blk_cell BK306.out 1).trans rfl, (blk_cell BK292.out 0).trans rfl, (blk_cell BK292.out 1).trans rfl⟩ (fun hHeld => ?_)
       clear hK K; refine norm_ (a' := ?_) ?_ ?_
       rotate_left
       ·
        show Act.put _ (some 43) _ = _
        simp only [Act.put, sa', sb', sc', i64_w, i32_w]
        rfl
       refine one_ (i := 3) (N := some 44) #[true, true, true, true, false] rfl rfl (by kernel_rfl) (by decide) (fun K hK => ?_)
       refine goes_ Try.func20 (by kernel_rfl) rfl #[.agg #[.slice Ao20 t302.length co20, .int .i64 t305], .agg #[.slice Ao37 t312.length co37, .int .i64 t315]] (by rfl) rfl rfl (by (try simp only [List.map_toArray, List.map_cons, List.map_nil]); first | done | rfl | (simp only [List.length_drop, List.length_take]; rfl)) ?_
       with_reducible refine (laws_eqParty.calls kj29 _ _ t302 t305 _ _ t312 t315 t316 _ ?side1 ?side2 ?side3 ?side4 A33.out).mono ?_
       (case side1 => repeat (first | exact (Kd.R_reads' HO_307000.out).2.2 | (with_reducible refine ca' ?_ _) | (with_reducible refine cn' ?_ _) | (with_reducible refine cd' ?_)))
       (case side2 => exact (Kd.R_reads' HO_307000.out).2.1)
       (case side3 => repeat (first | exact (Kd.R_reads' HO314.out).2.2 | (with_reducible refine ca' ?_ _) | (with_reducible refine cn' ?_ _) | (with_reducible refine cd' ?_)))
       (case side4 => exact (Kd.R_reads' HO314.out).2.1)
       rintro e w38 ⟨rfl, hb⟩
       refine ⟨_, rfl, ?_⟩
       have n0_ := am' (Kd.R_below (by (with_reducible repeat (first | apply ra' | apply rn' | apply rw')); exact HO_4.out) hb)
       have n1_ := am' (Kd.R_below (by (with_reducible repeat (first | apply ra' | apply rn' | apply rw')); exact HO_7.out) hb)
       have n2_ := am' (Kd.R_below (by (with_reducible repeat (first | apply ra' | apply rn' | apply rw')); exact HO_307000.out) hb)
       have n3_ := am' (Kd.R_below (by (with_reducible repeat (first | apply ra' | apply rn' | apply rw')); exact HO314.out) hb)
       have n4_ := am' (blk_below (g := gb292) (o := .cells #[.slice A0_0 l0_0.length c0_0, .int .i64 a0_1] 24 (0, 0)) (by (with_reducible repeat (first | refine kn' ?_ _ | refine kd' ?_ | refine ka' ?_ _)); exact BK292.out) hb)
       have n5_ := am' (blk_below (g := gb306) (o := .cells #[.slice Ao20 t302.length co20, .int .i64 t305] 28 (0, 0)) (by (with_reducible repeat (first | refine kn' ?_ _ | refine kd' ?_ | refine ka' ?_ _)); exact BK306.out) hb)
       have n6_ := am' (below_step (by repeat (first | (with_reducible first | exact HB.out | apply ba' | apply bd' | apply be' | refine bs' ?_ GE292.out | refine bs' ?_ GE306.out) | exact HB.out)) hb)
       clear HO_4; clear HO_7; clear HO_307000; clear HO314; clear BK292; clear BK306; clear HB; have HO_4 := n0_; have HO_7 := n1_; have HO_307000 := n2_; have HO314 := n3_; have BK292 := n4_; have BK306 := n5_; have HB := n6_; clear n0_ n1_ n2_ n3_ n4_ n5_ n6_; (try clear hb)
       (try clear hb2)
       (try clear hk)
       (try clear hi)
       refine hK.out _ _ ⟨(blk_cell BK306.out 0).trans rfl, (blk_cell BK306.out 1).trans rfl, (blk_cell BK292.out 0).trans rfl, (blk_cell BK292.out 1).trans rfl⟩ (fun hHeld => ?_)
       clear hK K; refine norm_ (a' := ?_) ?_ ?_
       rotate_left
       ·
        show Act.put _ (some 44) _ = _
        simp only [Act.put, sa', sb', sc', i64_w, i32_w]
        rfl
       refine pure_ (i := 4) (N := some 45) (v := ?_) (a' := ?_) #[true, true, true, true, true] rfl rfl (by kernel_rfl) (fun _ _ _ h => h) (Or.inl ⟨by rfl, ?_⟩) ?_ ?_
       rotate_left
       ·
        intro w'; go_simp; with_reducible rfl
       rotate_left
       ·
        simp only [Act.put, sa', sb', sc', i64_w, i32_w]
        rfl
       refine done_ (by kernel_rfl) ?_
       go_upto_if 45 with (fail)
       go_cut [] (fun wc => ∃ (kq : Nat), Aside0 (laws_FnExactTimesBySeats.j3 kq t298 t301 t307 t310 l0_0 a0_1 t302 t305 = some r) ∧ Aside0 (kq ≤ kj29) ∧ Aside0 (Kd.R (Kd.int .i64) 3 wc w.heap.size (fun k_ => some k_ ≠ (v308 : Value).ownBlock ∧ some k_ ≠ ((.slice Ao20 t302.length co20) : Value).ownBlock ∧ ¬ D334_ k_ ∧ D335_ k_ ∧ D336_ k_) v299 t298) ∧ Aside0 (Kd.R (Kd.int .i64) 3 wc w.heap.size (fun k_ => some k_ ≠ (v299 : Value).ownBlock ∧ some k_ ≠ ((.slice Ao20 t302.length co20) : Value).ownBlock ∧ ¬ D336_ k_) v308 t307) ∧ Aside0 (Kd.R (Kd.int .i64) 3 wc w.heap.size (fun k_ => some k_ ≠ (v299 : Value).ownBlock ∧ some k_ ≠ (v308 : Value).ownBlock ∧ ¬ D335_ k_ ∧ D336_ k_) (.slice Ao20 t302.length co20) t302) ∧ Aside0 (wc.heap[gb292]? = some (.cells #[(.slice A0_0 l0_0.length c0_0), .int .i64 a0_1] 24 (0, 0))) ∧ Aside0 (wc.heap[gb306]? = some (.cells #[(.slice Ao20 t302.length co20), .int .i64 t305] 28 (0, 0))) ∧ Aside0 (Below w.heap.size w wc))
       case first =>
        have H := HC34.out
        clear HC34; by_cases c39 : t316 = true
        ·
         subst c39; have H1 : (laws_FnExactTimesBySeats.j3 kj29 t298 t301 t307 t310 l0_0 a0_1 t302 t305) = some r := by rw [if_pos rfl] at H; exact H
         clear H; have H := H1; clear H1; have H' := am' H
         clear H; go_wp2
         go_meet
         case rel => exact ⟨_, H', ⟨by have := HJ2.out; have := HJ11.out; have := HJ29.out; first | omega | exact Nat.le_refl _⟩, ⟨by (with_reducible repeat (first | apply ra' | apply rn' | apply rw')); exact Kd.R_mono HO_4.out (fun _ hk => ⟨hk.1.1, ⟨hk.1.2.1, ⟨hk.1.2.2.1, ⟨hk.1.2.2.2.1, hk.1.2.2.2.2⟩⟩⟩⟩)⟩, ⟨by (with_reducible repeat (first | apply ra' | apply rn' | apply rw')); exact Kd.R_mono HO_7.out (fun _ hk => ⟨hk.1.1, ⟨hk.1.2.1, hk.1.2.2⟩⟩)⟩, ⟨by (with_reducible repeat (first | apply ra' | apply rn' | apply rw')); exact Kd.R_mono HO_307000.out (fun _ hk => ⟨hk.1.1, ⟨hk.1.2.1, ⟨hk.1.2.2.1, hk.1.2.2.2⟩⟩⟩)⟩, ⟨by (with_reducible repeat (first | refine kn' ?_ _ | refine kd' ?_ | refine ka' ?_ _)); exact BK292.out⟩, ⟨by (with_reducible repeat (first | refine kn' ?_ _ | refine kd' ?_ | refine ka' ?_ _)); exact BK306.out⟩, ⟨by repeat (first | (with_reducible first | exact HB.out | apply ba' | apply bd' | apply be' | refine bs' ?_ GE292.out | refine bs' ?_ GE306.out) | exact HB.out)⟩⟩
        ·
         replace c39 := Bool.eq_false_iff.mpr c39
         subst c39; have H1 : (some false) = some r := by rw [if_neg (show ¬ (false = true) by decide)] at H; exact H
         clear H; have H := H1; clear H1; obtain rfl := Option.some.inj H
         go_wp2
         go_ret
         exact ⟨by first | rfl | (simp [errW_none, errW_some] <;> rfl) | (simp [*, errW_none, errW_some] <;> rfl), by repeat (first | (with_reducible first | exact HB.out | apply ba' | apply bd' | apply be' | refine bs' ?_ GE292.out | refine bs' ?_ GE306.out) | exact HB.out)⟩
       case rest =>
        clear HC34; try clear c1
        try clear c2
        try clear p2
        try clear c3
        try clear c7
        try clear c7b0
        try clear c8
        try clear c16
        try clear c18
        try clear c20
        try clear c21
        try clear c25
        try clear c29
        try clear c30
        try clear c31
        try clear c39
        try clear hcz13_0
        try clear hcz13_1
        try clear hcz17_0
        try clear hcz17_1
        try clear hcz22_0
        try clear hcz22_1
        try clear hcz5_0
        try clear hcz5_1
        try clear hfz13_0
        try clear hfz13_1
        try clear hfz17_0
        try clear hfz17_1
        try clear hfz22_0
        try clear hfz22_1
        try clear hfz5_0
        try clear hfz5_1
        try clear p2
        obtain ⟨kq, HA, HJ33, HO_4, HO_7, HO_307000, BK292, BK306, HB⟩ := hcut
        cases kq with
        | zero => exact absurd HA.out (by simp [laws_FnExactTimesBySeats.j3])
        | succ kj33 =>
         have H := HA.out
         clear HA; simp only [laws_FnExactTimesBySeats.j3] at H
         replace H := Option.bind_eq_some_iff.mp H
         obtain ⟨⟨t317, t318⟩, A400, H⟩ := H
         replace H : (if t317 < 0 then (laws_FnExactTimesBySeats.j4 kj33 t298 t301 t307 true l0_0 a0_1) else ((laws_eqIntS.f kj33 t307 t298).bind fun t319 => (if t319 = true then (laws_FnExactTimesBySeats.j4 kj33 t298 t301 t307 (t310 != t301) l0_0 a0_1) else (laws_FnExactTimesBySeats.j4 kj33 t298 t301 t307 true l0_0 a0_1)))) = some r := H
         have A40 := am' A400
         clear A400; have HC41 := am' H
         clear H; have hnb42 := NB306_292.out
         have hnc42 := NB292_306.out
         have hcz43_0 : wc.cell? ⟨gb306, 0, none⟩ = some (.slice Ao20 t302.length co20) := (blk_cell BK306.out 0).trans rfl
         have hcz43_1 : wc.cell? ⟨gb306, 1, none⟩ = some (.int .i64 t305) := (blk_cell BK306.out 1).trans rfl
         have hfz43_0 := blk_frozen BK306.out 0
         have hfz43_1 := blk_frozen BK306.out 1
         go_upto_region 14 with (first | ((with_reducible refine gate_callee (f := 32) rfl ?_); refine goesL_ (some 48) rfl rfl Try.func32 (by kernel_rfl) rfl #[.agg #[.slice Ao20 t302.length co20, .int .i64 t305], .int .i64 1] rfl (by (try simp only [List.map_toArray, List.map_cons, List.map_nil]); first | done | rfl | (simp only [List.length_drop, List.length_take]; rfl)) ?_; (with_reducible refine (laws_markParty.calls kj33 (fun k_ => some k_ = (.slice Ao20 t302.length co20 : Value).ownBlock) (.slice Ao20 t302.length co20) t302 t305 1 t317 t318 w _ ?side1 ?side2 A40.out).mono ?_); (case side1 => repeat (first | (with_reducible first | exact HB.out | apply ba' | apply bd' | apply be' | refine bs' ?_ GE292.out | refine bs' ?_ GE306.out) | exact HB.out)); (case side2 => exact Kd.R_tight rfl HO_307000.out); rintro e w44 ⟨rfl, hy0, hb, hkp⟩; refine ⟨_, rfl, ?_⟩; have n0_ := am' (Kd.R_mono (ok' := fun k_ => some k_ ≠ (v308 : Value).ownBlock ∧ some k_ ≠ (.slice Ao20 t302.length co20 : Value).ownBlock ∧ ¬ D334_ k_ ∧ D335_ k_ ∧ D336_ k_) (Kd.R_keptB (HO_4.out) hkp (fun k_ hk_ hs_ => (hk_.2.1) hs_)) (fun k_ hk_ => ⟨hk_.1.1, hk_.1.2.1, hk_.1.2.2.1, hk_.1.2.2.2.1, hk_.1.2.2.2.2⟩)); have n1_ := am' (Kd.R_mono (ok' := fun k_ => some k_ ≠ (v299 : Value).ownBlock ∧ some k_ ≠ (.slice Ao20 t302.length co20 : Value).ownBlock ∧ ¬ D336_ k_) (Kd.R_keptB (HO_7.out) hkp (fun k_ hk_ hs_ => (hk_.2.1) hs_)) (fun k_ hk_ => ⟨hk_.1.1, hk_.1.2.1, hk_.1.2.2⟩)); have n2_ := am' (Kd.R_reok rfl hy0 (fun k_ e_ => HO_307000.out.1 k_ e_)); have n3_ := am' (blk_kept (by (with_reducible repeat (first | refine kn' ?_ _ | refine kd' ?_ | refine ka' ?_ _)); exact BK292.out) hkp (fun hs_ => (fun e_ => (Kd.R_ne HO_307000.out BK292.out (by decide)) e_) hs_)); have n4_ := am' (blk_kept (by (with_reducible repeat (first | refine kn' ?_ _ | refine kd' ?_ | refine ka' ?_ _)); exact BK306.out) hkp (fun hs_ => (fun e_ => (Kd.R_ne HO_307000.out BK306.out (by decide)) e_) hs_)); have n5_ := am' (hb); clear HO_4; clear HO_7; clear HO_307000; clear BK292; clear BK306; clear HB; have HO_4 := n0_; have HO_7 := n1_; have HO_307000 := n2_; have BK292 := n3_; have BK306 := n4_; have HB := n5_; clear n0_ n1_ n2_ n3_ n4_ n5_; (try clear hb); (try clear hkp); (try clear hy0)))
         (try simp only [Act.put, sa', sb', sc'])
         go_cut [61] (fun v61 wc => ∃ (kq : Nat) (x61_40 : Bool), v61 = .bool x61_40 ∧ Aside0 (laws_FnExactTimesBySeats.j4 kq t298 t301 t307 x61_40 l0_0 a0_1 = some r) ∧ Aside0 (kq ≤ kj33) ∧ Aside0 (Kd.R (Kd.int .i64) 3 wc w.heap.size (fun k_ => some k_ ≠ (v308 : Value).ownBlock ∧ some k_ ≠ ((.slice Ao20 t302.length co20) : Value).ownBlock ∧ ¬ D334_ k_ ∧ D335_ k_ ∧ D336_ k_) v299 t298) ∧ Aside0 (Kd.R (Kd.int .i64) 3 wc w.heap.size (fun k_ => some k_ ≠ (v299 : Value).ownBlock ∧ some k_ ≠ ((.slice Ao20 t302.length co20) : Value).ownBlock ∧ ¬ D336_ k_) v308 t307) ∧ Aside0 (Kd.R (Kd.int .i64) 3 wc w.heap.size (fun k_ => some k_ ≠ (v299 : Value).ownBlock ∧ some k_ ≠ (v308 : Value).ownBlock ∧ ¬ D335_ k_ ∧ D336_ k_) (.slice Ao20 t302.length co20) t318) ∧ Aside0 (wc.heap[gb292]? = some (.cells #[(.slice A0_0 l0_0.length c0_0), .int .i64 a0_1] 24 (0, 0))) ∧ Aside0 (wc.heap[gb306]? = some (.cells #[(.slice Ao20 t302.length co20), .int .i64 t305] 28 (0, 0))) ∧ Aside0 (Below w.heap.size w wc))
         case first =>
          have H := HC41.out
          clear HC41; by_cases c45 : t317 < 0
          ·
           rw [if_pos c45] at H; have c45b0 : decide (t317 < 0) = true := decide_eq_true c45
           clear c45; (first | rw [c45b0] | (simp only [i64_w, i32_w]; rw [c45b0]) | skip)
           have H' := am' H
           clear H; go_wp2
           go_meet
           case rel => exact ⟨_, (true), (by first | rfl | (simp; done) | (simp [*]; done)), H', ⟨by have := HJ2.out; have := HJ11.out; have := HJ29.out; have := HJ33.out; first | omega | exact Nat.le_refl _⟩, ⟨by (with_reducible repeat (first | apply ra' | apply rn' | apply rw')); exact HO_4.out⟩, ⟨by (with_reducible repeat (first | apply ra' | apply rn' | apply rw')); exact HO_7.out⟩, ⟨by (with_reducible repeat (first | apply ra' | apply rn' | apply rw')); exact HO_307000.out⟩, ⟨by (with_reducible repeat (first | refine kn' ?_ _ | refine kd' ?_ | refine ka' ?_ _)); exact BK292.out⟩, ⟨by (with_reducible repeat (first | refine kn' ?_ _ | refine kd' ?_ | refine ka' ?_ _)); exact BK306.out⟩, ⟨by repeat (first | (with_reducible first | exact HB.out | apply ba' | apply bd' | apply be' | refine bs' ?_ GE292.out | refine bs' ?_ GE306.out) | exact HB.out)⟩⟩
          ·
           rw [if_neg c45] at H; have c45b0 : decide (t317 < 0) = false := decide_eq_false c45
           clear c45; (first | rw [c45b0] | (simp only [i64_w, i32_w]; rw [c45b0]) | skip)
           replace H := Option.bind_eq_some_iff.mp H
           obtain ⟨t319, A460, H⟩ := H
           replace H : (if t319 = true then (laws_FnExactTimesBySeats.j4 kj33 t298 t301 t307 (t310 != t301) l0_0 a0_1) else (laws_FnExactTimesBySeats.j4 kj33 t298 t301 t307 true l0_0 a0_1)) = some r := H
           have A46 := am' A460
           clear A460; by_cases c47 : t319 = true
           ·
            subst c47; have H1 : (laws_FnExactTimesBySeats.j4 kj33 t298 t301 t307 (t310 != t301) l0_0 a0_1) = some r := by rw [if_pos rfl] at H; exact H
            clear H; have H := H1; clear H1; have H' := am' H
            clear H; obtain ⟨Ao48, co48, eo48⟩ := Kd.R_slice HO_7.out
            subst eo48; obtain ⟨Ao49, co49, eo49⟩ := Kd.R_slice HO_4.out
            subst eo49; go_wp2_with (first | (go_at_call 31; (with_reducible refine (laws_eqIntS.calls kj33 _ _ t307 _ _ t298 true _ ?side1 ?side2 ?side3 ?side4 A46.out).mono ?_); (case side1 => repeat (first | exact (Kd.R_reads' HO_7.out).2.2 | (with_reducible refine ca' ?_ _) | (with_reducible refine cn' ?_ _) | (with_reducible refine cd' ?_))); (case side2 => exact (Kd.R_reads' HO_7.out).2.1); (case side3 => repeat (first | exact (Kd.R_reads' HO_4.out).2.2 | (with_reducible refine ca' ?_ _) | (with_reducible refine cn' ?_ _) | (with_reducible refine cd' ?_))); (case side4 => exact (Kd.R_reads' HO_4.out).2.1); rintro e w' ⟨rfl, ⟨nd, rfl⟩⟩))
            go_meet
            case rel => exact ⟨_, ((t310 != t301)), (by first | rfl | (simp; done) | (simp [*]; done)), H', ⟨by have := HJ2.out; have := HJ11.out; have := HJ29.out; have := HJ33.out; first | omega | exact Nat.le_refl _⟩, ⟨by (with_reducible repeat (first | apply ra' | apply rn' | apply rw')); exact HO_4.out⟩, ⟨by (with_reducible repeat (first | apply ra' | apply rn' | apply rw')); exact HO_7.out⟩, ⟨by (with_reducible repeat (first | apply ra' | apply rn' | apply rw')); exact HO_307000.out⟩, ⟨by (with_reducible repeat (first | refine kn' ?_ _ | refine kd' ?_ | refine ka' ?_ _)); exact BK292.out⟩, ⟨by (with_reducible repeat (first | refine kn' ?_ _ | refine kd' ?_ | refine ka' ?_ _)); exact BK306.out⟩, ⟨by repeat (first | (with_reducible first | exact HB.out | apply ba' | apply bd' | apply be' | refine bs' ?_ GE292.out | refine bs' ?_ GE306.out) | exact HB.out)⟩⟩
           ·
            replace c47 := Bool.eq_false_iff.mpr c47
            subst c47; have H1 : (laws_FnExactTimesBySeats.j4 kj33 t298 t301 t307 true l0_0 a0_1) = some r := by rw [if_neg (show ¬ (false = true) by decide)] at H; exact H
            clear H; have H := H1; clear H1; have H' := am' H
            clear H; obtain ⟨Ao50, co50, eo50⟩ := Kd.R_slice HO_7.out
            subst eo50; obtain ⟨Ao51, co51, eo51⟩ := Kd.R_slice HO_4.out
            subst eo51; go_wp2_with (first | (go_at_call 31; (with_reducible refine (laws_eqIntS.calls kj33 _ _ t307 _ _ t298 false _ ?side1 ?side2 ?side3 ?side4 A46.out).mono ?_); (case side1 => repeat (first | exact (Kd.R_reads' HO_7.out).2.2 | (with_reducible refine ca' ?_ _) | (with_reducible refine cn' ?_ _) | (with_reducible refine cd' ?_))); (case side2 => exact (Kd.R_reads' HO_7.out).2.1); (case side3 => repeat (first | exact (Kd.R_reads' HO_4.out).2.2 | (with_reducible refine ca' ?_ _) | (with_reducible refine cn' ?_ _) | (with_reducible refine cd' ?_))); (case side4 => exact (Kd.R_reads' HO_4.out).2.1); rintro e w' ⟨rfl, ⟨nd, rfl⟩⟩))
            go_meet
            case rel => exact ⟨_, (true), (by first | rfl | (simp; done) | (simp [*]; done)), H', ⟨by have := HJ2.out; have := HJ11.out; have := HJ29.out; have := HJ33.out; first | omega | exact Nat.le_refl _⟩, ⟨by (with_reducible repeat (first | apply ra' | apply rn' | apply rw')); exact HO_4.out⟩, ⟨by (with_reducible repeat (first | apply ra' | apply rn' | apply rw')); exact HO_7.out⟩, ⟨by (with_reducible repeat (first | apply ra' | apply rn' | apply rw')); exact HO_307000.out⟩, ⟨by (with_reducible repeat (first | refine kn' ?_ _ | refine kd' ?_ | refine ka' ?_ _)); exact BK292.out⟩, ⟨by (with_reducible repeat (first | refine kn' ?_ _ | refine kd' ?_ | refine ka' ?_ _)); exact BK306.out⟩, ⟨by repeat (first | (with_reducible first | exact HB.out | apply ba' | apply bd' | apply be' | refine bs' ?_ GE292.out | refine bs' ?_ GE306.out) | exact HB.out)⟩⟩
         case rest =>
          clear HC41; try clear c1
          try clear c2
          try clear p2
          try clear c3
          try clear c4
          try clear c7
          try clear c7b0
          try clear c8
          try clear c16
          try clear c18
          try clear c20
          try clear c21
          try clear c25
          try clear c29
          try clear c30
          try clear c31
          try clear c32
          try clear c39
          try clear c42
          try clear c45
          try clear c45b0
          try clear c47
          try clear hcz13_0
          try clear hcz13_1
          try clear hcz17_0
          try clear hcz17_1
          try clear hcz22_0
          try clear hcz22_1
          try clear hcz43_0
          try clear hcz43_1
          try clear hcz5_0
          try clear hcz5_1
          try clear hfz13_0
          try clear hfz13_1
          try clear hfz17_0
          try clear hfz17_1
          try clear hfz22_0
          try clear hfz22_1
          try clear hfz43_0
          try clear hfz43_1
          try clear hfz5_0
          try clear hfz5_1
          try clear p2
          obtain ⟨kq, x61_40, rfl, HA, HJ40, HO_4, HO_7, HO_307000, BK292, BK306, HB⟩ := hcut
          have hl307000_40 := (Kd.R_reads' HO_307000.out).1
          rw [hl307000_40] at HO_307000
          (try simp only [hl307000_40])
          (try simp only [hl307000_40] at BK292)
          (try simp only [hl307000_40] at BK306)
          (try simp only [hl307000_40] at HO_4)
          (try simp only [hl307000_40] at HO_7)
          cases kq with
          | zero => exact absurd HA.out (by simp [laws_FnExactTimesBySeats.j4])
          | succ kj40 =>
           have H := HA.out
           clear HA; simp only [laws_FnExactTimesBySeats.j4] at H
           have HC52 := am' H
           clear H; go_upto_if 61 with (fail)
           go_cut [] (fun wc => ∃ (kq : Nat), Aside0 (laws_FnExactTimesBySeats.j5 kq t298 t301 t307 l0_0 a0_1 = some r) ∧ Aside0 (kq ≤ kj40) ∧ Aside0 (Kd.R (Kd.int .i64) 3 wc w.heap.size (fun k_ => some k_ ≠ (v308 : Value).ownBlock ∧ some k_ ≠ ((.slice Ao20 t318.length co20) : Value).ownBlock ∧ ¬ D334_ k_ ∧ D335_ k_ ∧ D336_ k_) v299 t298) ∧ Aside0 (Kd.R (Kd.int .i64) 3 wc w.heap.size (fun k_ => some k_ ≠ (v299 : Value).ownBlock ∧ some k_ ≠ ((.slice Ao20 t318.length co20) : Value).ownBlock ∧ ¬ D336_ k_) v308 t307) ∧ Aside0 (Kd.R (Kd.int .i64) 3 wc w.heap.size (fun k_ => some k_ ≠ (v299 : Value).ownBlock ∧ some k_ ≠ (v308 : Value).ownBlock ∧ ¬ D335_ k_ ∧ D336_ k_) (.slice Ao20 t318.length co20) t318) ∧ Aside0 (wc.heap[gb292]? = some (.cells #[(.slice A0_0 l0_0.length c0_0), .int .i64 a0_1] 24 (0, 0))) ∧ Aside0 (wc.heap[gb306]? = some (.cells #[(.slice Ao20 t318.length co20), .int .i64 t305] 28 (0, 0))) ∧ Aside0 (Below w.heap.size w wc))
           case first =>
            have H := HC52.out
            clear HC52; by_cases c53 : x61_40 = true
            ·
             subst c53; have H1 : (some false) = some r := by rw [if_pos rfl] at H; exact H
             clear H; have H := H1; clear H1; obtain rfl := Option.some.inj H
             go_wp2
             go_ret
             exact ⟨by first | rfl | (simp [errW_none, errW_some] <;> rfl) | (simp [*, errW_none, errW_some] <;> rfl), by repeat (first | (with_reducible first | exact HB.out | apply ba' | apply bd' | apply be' | refine bs' ?_ GE292.out | refine bs' ?_ GE306.out) | exact HB.out)⟩
            ·
             replace c53 := Bool.eq_false_iff.mpr c53
             subst c53; have H1 : (laws_FnExactTimesBySeats.j5 kj40 t298 t301 t307 l0_0 a0_1) = some r := by rw [if_neg (show ¬ (false = true) by decide)] at H; exact H
             clear H; have H := H1; clear H1; have H' := am' H
             clear H; go_wp2
             go_meet
             case rel => exact ⟨_, H', ⟨by have := HJ2.out; have := HJ11.out; have := HJ29.out; have := HJ33.out; have := HJ40.out; first | omega | exact Nat.le_refl _⟩, ⟨by (try simp only [hl307000_40]); (with_reducible repeat (first | apply ra' | apply rn' | apply rw')); exact HO_4.out⟩, ⟨by (try simp only [hl307000_40]); (with_reducible repeat (first | apply ra' | apply rn' | apply rw')); exact HO_7.out⟩, ⟨by (try simp only [hl307000_40]); (with_reducible repeat (first | apply ra' | apply rn' | apply rw')); exact HO_307000.out⟩, ⟨by (try simp only [hl307000_40]); (with_reducible repeat (first | refine kn' ?_ _ | refine kd' ?_ | refine ka' ?_ _)); exact BK292.out⟩, ⟨by (try simp only [hl307000_40]); (with_reducible repeat (first | refine kn' ?_ _ | refine kd' ?_ | refine ka' ?_ _)); exact BK306.out⟩, ⟨by repeat (first | (with_reducible first | exact HB.out | apply ba' | apply bd' | apply be' | refine bs' ?_ GE292.out | refine bs' ?_ GE306.out) | exact HB.out)⟩⟩
           case rest =>
            clear HC52; try clear c1
            try clear c2
            try clear p2
            try clear c3
            try clear c4
            try clear c5
            try clear c7
            try clear c7b0
            try clear c8
            try clear c16
            try clear c18
            try clear c20
            try clear c21
            try clear c25
            try clear c29
            try clear c30
            try clear c31
            try clear c32
            try clear c39
            try clear c42
            try clear c45
            try clear c45b0
            try clear c47
            try clear c53
            try clear hcz13_0
            try clear hcz13_1
            try clear hcz17_0
            try clear hcz17_1
            try clear hcz22_0
            try clear hcz22_1
            try clear hcz43_0
            try clear hcz43_1
            try clear hcz5_0
            try clear hcz5_1
            try clear hfz13_0
            try clear hfz13_1
            try clear hfz17_0
            try clear hfz17_1
            try clear hfz22_0
            try clear hfz22_1
            try clear hfz43_0
            try clear hfz43_1
            try clear hfz5_0
            try clear hfz5_1
            try clear p2
            obtain ⟨kq, HA, HJ51, HO_4, HO_7, HO_307000, BK292, BK306, HB⟩ := hcut
            cases kq with
            | zero => exact absurd HA.out (by simp [laws_FnExactTimesBySeats.j5])
            | succ kj51 =>
             have H := HA.out
             clear HA; simp only [laws_FnExactTimesBySeats.j5] at H
             replace H := Option.bind_eq_some_iff.mp H
             obtain ⟨⟨t320, t321⟩, A540, H⟩ := H
             replace H : ((laws_heldIntS.f kj51 t321 1).bind fun t322 => (if t322 < 0 then (some false) else (laws_FnExactTimesBySeats.j6 kj51 t298 t301 t321 t320 t322 l0_0 a0_1))) = some r := H
             have A54 := am' A540
             clear A540; replace H := Option.bind_eq_some_iff.mp H
             obtain ⟨t322, A550, H⟩ := H
             replace H : (if t322 < 0 then (some false) else (laws_FnExactTimesBySeats.j6 kj51 t298 t301 t321 t320 t322 l0_0 a0_1)) = some r := H
             have A55 := am' A550
             clear A550; have HC56 := am' H
             clear H; obtain ⟨Ao57, co57, eo57⟩ := Kd.R_slice HO_7.out
             subst eo57; go_upto_if 69 with (first | ((with_reducible refine gate_callee (f := 33) rfl ?_); refine goesL_ (some 64) rfl rfl Try.func33 (by kernel_rfl) rfl #[.slice Ao57 t307.length co57, .int .i64 1] rfl (by (try simp only [List.map_toArray, List.map_cons, List.map_nil]); first | done | rfl | (simp only [List.length_drop, List.length_take]; rfl)) ?_; (with_reducible refine (laws_markIntS.calls kj51 (fun k_ => some k_ = (.slice Ao57 t307.length co57 : Value).ownBlock) (.slice Ao57 t307.length co57) t307 1 t320 t321 w _ ?side1 ?side2 A54.out).mono ?_); (case side1 => repeat (first | (with_reducible first | exact HB.out | apply ba' | apply bd' | apply be' | refine bs' ?_ GE292.out | refine bs' ?_ GE306.out) | exact HB.out)); (case side2 => exact Kd.R_tight rfl HO_7.out); rintro e w58 ⟨rfl, hy0, hb, hkp⟩; refine ⟨_, rfl, ?_⟩; have n0_ := am' (Kd.R_mono (ok' := fun k_ => some k_ ≠ (.slice Ao57 t307.length co57 : Value).ownBlock ∧ some k_ ≠ (.slice Ao20 t318.length co20 : Value).ownBlock ∧ ¬ D334_ k_ ∧ D335_ k_ ∧ D336_ k_) (Kd.R_keptB (HO_4.out) hkp (fun k_ hk_ hs_ => (hk_.1) hs_)) (fun k_ hk_ => ⟨hk_.1.1, hk_.1.2.1, hk_.1.2.2.1, hk_.1.2.2.2.1, hk_.1.2.2.2.2⟩)); have n1_ := am' (Kd.R_reok rfl hy0 (fun k_ e_ => HO_7.out.1 k_ e_)); have n2_ := am' (Kd.R_mono (ok' := fun k_ => some k_ ≠ (v299 : Value).ownBlock ∧ some k_ ≠ (.slice Ao57 t307.length co57 : Value).ownBlock ∧ ¬ D335_ k_ ∧ D336_ k_) (Kd.R_keptB (HO_307000.out) hkp (fun k_ hk_ hs_ => (hk_.2.1) hs_)) (fun k_ hk_ => ⟨hk_.1.1, hk_.1.2.1, hk_.1.2.2.1, hk_.1.2.2.2⟩)); have n3_ := am' (blk_kept (by (with_reducible repeat (first | refine kn' ?_ _ | refine kd' ?_ | refine ka' ?_ _)); exact BK292.out) hkp (fun hs_ => (fun e_ => (Kd.R_ne HO_7.out BK292.out (by decide)) e_) hs_)); have n4_ := am' (blk_kept (by (with_reducible repeat (first | refine kn' ?_ _ | refine kd' ?_ | refine ka' ?_ _)); exact BK306.out) hkp (fun hs_ => (fun e_ => (Kd.R_ne HO_7.out BK306.out (by decide)) e_) hs_)); have n5_ := am' (hb); clear HO_4; clear HO_7; clear HO_307000; clear BK292; clear BK306; clear HB; have HO_4 := n0_; have HO_7 := n1_; have HO_307000 := n2_; have BK292 := n3_; have BK306 := n4_; have HB := n5_; clear n0_ n1_ n2_ n3_ n4_ n5_; (try clear hb); (try clear hkp); (try clear hy0)) | ((with_reducible refine gate_callee (f := 34) rfl ?_); refine goesL_ (some 67) rfl rfl Try.func34 (by kernel_rfl) rfl #[.slice Ao57 t321.length co57, .int .i64 1] rfl (by (try simp only [List.map_toArray, List.map_cons, List.map_nil]); first | done | (rw [show t321.length = t307.length from (Kd.R_reads' HO_7.out).1.symm] <;> rfl) | rfl | (simp only [List.length_drop, List.length_take]; rfl)) ?_; (with_reducible refine (laws_heldIntS.calls kj51 _ _ t321 1 t322 _ ?side1 ?side2 A55.out).mono ?_); (case side1 => repeat (first | exact (Kd.R_reads' HO_7.out).2.2 | (with_reducible refine ca' ?_ _) | (with_reducible refine cn' ?_ _) | (with_reducible refine cd' ?_))); (case side2 => rw [show t321.length = t307.length from (Kd.R_reads' HO_7.out).1.symm]; exact (Kd.R_reads' HO_7.out).2.1); rintro e w' ⟨rfl, ⟨nd, rfl⟩⟩; refine ⟨_, rfl, ?_⟩))
             (try simp only [Act.put, sa', sb', sc'])
             go_cut [] (fun wc => ∃ (kq : Nat), Aside0 (laws_FnExactTimesBySeats.j6 kq t298 t301 t321 t320 t322 l0_0 a0_1 = some r) ∧ Aside0 (kq ≤ kj51) ∧ Aside0 (Kd.R (Kd.int .i64) 3 wc w.heap.size (fun k_ => some k_ ≠ ((.slice Ao57 t307.length co57) : Value).ownBlock ∧ some k_ ≠ ((.slice Ao20 t318.length co20) : Value).ownBlock ∧ ¬ D334_ k_ ∧ D335_ k_ ∧ D336_ k_) v299 t298) ∧ Aside0 (Kd.R (Kd.int .i64) 3 wc w.heap.size (fun k_ => some k_ ≠ (v299 : Value).ownBlock ∧ some k_ ≠ ((.slice Ao20 t318.length co20) : Value).ownBlock ∧ ¬ D336_ k_) (.slice Ao57 t307.length co57) t321) ∧ Aside0 (Kd.R (Kd.int .i64) 3 wc w.heap.size (fun k_ => some k_ ≠ (v299 : Value).ownBlock ∧ some k_ ≠ ((.slice Ao57 t307.length co57) : Value).ownBlock ∧ ¬ D335_ k_ ∧ D336_ k_) (.slice Ao20 t318.length co20) t318) ∧ Aside0 (wc.heap[gb292]? = some (.cells #[(.slice A0_0 l0_0.length c0_0), .int .i64 a0_1] 24 (0, 0))) ∧ Aside0 (wc.heap[gb306]? = some (.cells #[(.slice Ao20 t318.length co20), .int .i64 t305] 28 (0, 0))) ∧ Aside0 (Below w.heap.size w wc))
             case first =>
              have H := HC56.out
              clear HC56; by_cases c59 : t322 < 0
              ·
               rw [if_pos c59] at H; have c59b0 : decide (t322 < 0) = true := decide_eq_true c59
               clear c59; (first | rw [c59b0] | (simp only [i64_w, i32_w]; rw [c59b0]) | skip)
               obtain rfl := Option.some.inj H
               go_wp2
               go_ret
               exact ⟨by first | rfl | (simp [errW_none, errW_some] <;> rfl) | (simp [*, errW_none, errW_some] <;> rfl), by repeat (first | (with_reducible first | exact HB.out | apply ba' | apply bd' | apply be' | refine bs' ?_ GE292.out | refine bs' ?_ GE306.out) | exact HB.out)⟩
              ·
               rw [if_neg c59] at H; have c59b0 : decide (t322 < 0) = false := decide_eq_false c59
               clear c59; (first | rw [c59b0] | (simp only [i64_w, i32_w]; rw [c59b0]) | skip)
               have H' := am' H
               clear H; go_wp2
               go_meet
               case rel => exact ⟨_, H', ⟨by have := HJ2.out; have := HJ11.out; have := HJ29.out; have := HJ33.out; have := HJ40.out; have := HJ51.out; first | omega | exact Nat.le_refl _⟩, ⟨by (try simp only [hl307000_40]); (with_reducible repeat (first | apply ra' | apply rn' | apply rw')); exact HO_4.out⟩, ⟨by (try simp only [hl307000_40]); (with_reducible repeat (first | apply ra' | apply rn' | apply rw')); exact HO_7.out⟩, ⟨by (try simp only [hl307000_40]); (with_reducible repeat (first | apply ra' | apply rn' | apply rw')); exact HO_307000.out⟩, ⟨by (try simp only [hl307000_40]); (with_reducible repeat (first | refine kn' ?_ _ | refine kd' ?_ | refine ka' ?_ _)); exact BK292.out⟩, ⟨by (try simp only [hl307000_40]); (with_reducible repeat (first | refine kn' ?_ _ | refine kd' ?_ | refine ka' ?_ _)); exact BK306.out⟩, ⟨by repeat (first | (with_reducible first | exact HB.out | apply ba' | apply bd' | apply be' | refine bs' ?_ GE292.out | refine bs' ?_ GE306.out) | exact HB.out)⟩⟩
             case rest =>
              clear HC56; try clear c1
              try clear c2
              try clear p2
              try clear c3
              try clear c4
              try clear c5
              try clear c7
              try clear c7b0
              try clear c8
              try clear c16
              try clear c18
              try clear c20
              try clear c21
              try clear c25
              try clear c29
              try clear c30
              try clear c31
              try clear c32
              try clear c33
              try clear c34
              try clear c39
              try clear c42
              try clear c45
              try clear c45b0
              try clear c47
              try clear c53
              try clear c59
              try clear c59b0
              try clear hcz13_0
              try clear hcz13_1
              try clear hcz17_0
              try clear hcz17_1
              try clear hcz22_0
              try clear hcz22_1
              try clear hcz43_0
              try clear hcz43_1
              try clear hcz5_0
              try clear hcz5_1
              try clear hfz13_0
              try clear hfz13_1
              try clear hfz17_0
              try clear hfz17_1
              try clear hfz22_0
              try clear hfz22_1
              try clear hfz43_0
              try clear hfz43_1
              try clear hfz5_0
              try clear hfz5_1
              try clear p2
              obtain ⟨kq, HA, HJ55, HO_4, HO_7, HO_307000, BK292, BK306, HB⟩ := hcut
              have hl7_55 := (Kd.R_reads' HO_7.out).1
              rw [hl7_55] at HO_7
              (try simp only [hl7_55])
              (try simp only [hl7_55] at BK292)
              (try simp only [hl7_55] at BK306)
              (try simp only [hl7_55] at HO_4)
              (try simp only [hl7_55] at HO_307000)
              cases kq with
              | zero => exact absurd HA.out (by simp [laws_FnExactTimesBySeats.j6])
              | succ kj55 =>
               have H := HA.out
               clear HA; simp only [laws_FnExactTimesBySeats.j6] at H
               have HC60 := am' H
               clear H; go_upto_if 72 with (fail)
               go_cut [] (fun wc => ∃ (kq : Nat), Aside0 (laws_FnExactTimesBySeats.j7 kq t298 t301 t321 t320 l0_0 a0_1 = some r) ∧ Aside0 (kq ≤ kj55) ∧ Aside0 (Kd.R (Kd.int .i64) 3 wc w.heap.size (fun k_ => some k_ ≠ ((.slice Ao57 t321.length co57) : Value).ownBlock ∧ some k_ ≠ ((.slice Ao20 t318.length co20) : Value).ownBlock ∧ ¬ D334_ k_ ∧ D335_ k_ ∧ D336_ k_) v299 t298) ∧ Aside0 (Kd.R (Kd.int .i64) 3 wc w.heap.size (fun k_ => some k_ ≠ (v299 : Value).ownBlock ∧ some k_ ≠ ((.slice Ao20 t318.length co20) : Value).ownBlock ∧ ¬ D336_ k_) (.slice Ao57 t321.length co57) t321) ∧ Aside0 (Kd.R (Kd.int .i64) 3 wc w.heap.size (fun k_ => some k_ ≠ (v299 : Value).ownBlock ∧ some k_ ≠ ((.slice Ao57 t321.length co57) : Value).ownBlock ∧ ¬ D335_ k_ ∧ D336_ k_) (.slice Ao20 t318.length co20) t318) ∧ Aside0 (wc.heap[gb292]? = some (.cells #[(.slice A0_0 l0_0.length c0_0), .int .i64 a0_1] 24 (0, 0))) ∧ Aside0 (wc.heap[gb306]? = some (.cells #[(.slice Ao20 t318.length co20), .int .i64 t305] 28 (0, 0))) ∧ Aside0 (Below w.heap.size w wc))
               case first =>
                have H := HC60.out
                clear HC60; by_cases c61 : t322 = t320
                ·
                 rw [if_pos c61] at H; have c61b0 : (t322 == t320) = true := beq_iff_eq.mpr c61
                 have c61b1 : (t322 != t320) = false := bne_eq_false_iff_eq.mpr c61
                 clear c61; (first | rw [c61b0] | (simp only [i64_w, i32_w]; rw [c61b0]) | skip)
                 have H' := am' H
                 clear H; go_wp2
                 go_meet
                 case rel => exact ⟨_, H', ⟨by have := HJ2.out; have := HJ11.out; have := HJ29.out; have := HJ33.out; have := HJ40.out; have := HJ51.out; have := HJ55.out; first | omega | exact Nat.le_refl _⟩, ⟨by (try simp only [hl307000_40]); (try simp only [hl7_55]); (with_reducible repeat (first | apply ra' | apply rn' | apply rw')); exact HO_4.out⟩, ⟨by (try simp only [hl307000_40]); (try simp only [hl7_55]); (with_reducible repeat (first | apply ra' | apply rn' | apply rw')); exact HO_7.out⟩, ⟨by (try simp only [hl307000_40]); (try simp only [hl7_55]); (with_reducible repeat (first | apply ra' | apply rn' | apply rw')); exact HO_307000.out⟩, ⟨by (try simp only [hl307000_40]); (try simp only [hl7_55]); (with_reducible repeat (first | refine kn' ?_ _ | refine kd' ?_ | refine ka' ?_ _)); exact BK292.out⟩, ⟨by (try simp only [hl307000_40]); (try simp only [hl7_55]); (with_reducible repeat (first | refine kn' ?_ _ | refine kd' ?_ | refine ka' ?_ _)); exact BK306.out⟩, ⟨by repeat (first | (with_reducible first | exact HB.out | apply ba' | apply bd' | apply be' | refine bs' ?_ GE292.out | refine bs' ?_ GE306.out) | exact HB.out)⟩⟩
                ·
                 rw [if_neg c61] at H; have c61b0 : (t322 == t320) = false := beq_eq_false_iff_ne.mpr c61
                 have c61b1 : (t322 != t320) = true := bne_iff_ne.mpr c61
                 (first | rw [c61b0] | (simp only [i64_w, i32_w]; rw [c61b0]) | skip)
                 obtain rfl := Option.some.inj H
                 go_wp2
                 go_ret
                 exact ⟨by first | rfl | (simp [errW_none, errW_some] <;> rfl) | (simp [*, errW_none, errW_some] <;> rfl), by repeat (first | (with_reducible first | exact HB.out | apply ba' | apply bd' | apply be' | refine bs' ?_ GE292.out | refine bs' ?_ GE306.out) | exact HB.out)⟩
               case rest =>
                clear HC60; try clear c1
                try clear c2
                try clear p2
                try clear c3
                try clear c4
                try clear c5
                try clear c6
                try clear c7
                try clear c7b0
                try clear c8
                try clear c16
                try clear c18
                try clear c20
                try clear c21
                try clear c25
                try clear c29
                try clear c30
                try clear c31
                try clear c32
                try clear c33
                try clear c34
                try clear c39
                try clear c42
                try clear c45
                try clear c45b0
                try clear c47
                try clear c53
                try clear c59
                try clear c59b0
                try clear c61
                try clear c61b0
                try clear c61b1
                try clear hcz13_0
                try clear hcz13_1
                try clear hcz17_0
                try clear hcz17_1
                try clear hcz22_0
                try clear hcz22_1
                try clear hcz43_0
                try clear hcz43_1
                try clear hcz5_0
                try clear hcz5_1
                try clear hfz13_0
                try clear hfz13_1
                try clear hfz17_0
                try clear hfz17_1
                try clear hfz22_0
                try clear hfz22_1
                try clear hfz43_0
                try clear hfz43_1
                try clear hfz5_0
                try clear hfz5_1
                try clear p2
                obtain ⟨kq, HA, HJ59, HO_4, HO_7, HO_307000, BK292, BK306, HB⟩ := hcut
                cases kq with
                | zero => exact absurd HA.out (by simp [laws_FnExactTimesBySeats.j7])
                | succ kj59 =>
                 have H := HA.out
                 clear HA; simp only [laws_FnExactTimesBySeats.j7] at H
                 replace H := Option.bind_eq_some_iff.mp H
                 obtain ⟨⟨t323, t326⟩, A620, H⟩ := H
                 replace H : ((impl_TimesBySeats.f kj59 t323 t326).bind fun bt327 => ((laws_eqIntS.f kj59 bt327.1 t298).bind fun t331 => (if t331 = true then (laws_FnExactTimesBySeats.j8 kj59 t321 t320 (bt327.2 != t301)) else (laws_FnExactTimesBySeats.j8 kj59 t321 t320 true)))) = some r := H
                 have A62 := am' A620
                 clear A620; replace H := Option.bind_eq_some_iff.mp H
                 obtain ⟨⟨t327, t330⟩, A630, H⟩ := H
                 replace H : ((laws_eqIntS.f kj59 t327 t298).bind fun t331 => (if t331 = true then (laws_FnExactTimesBySeats.j8 kj59 t321 t320 (t330 != t301)) else (laws_FnExactTimesBySeats.j8 kj59 t321 t320 true))) = some r := H
                 have A63 := am' A630
                 clear A630; have HC64 := am' H
                 clear H; have hnb65 := NB292_306.out
                 have hnc65 := NB306_292.out
                 have hcz66_0 : wc.cell? ⟨gb292, 0, none⟩ = some (.slice A0_0 l0_0.length c0_0) := (blk_cell BK292.out 0).trans rfl
                 have hcz66_1 : wc.cell? ⟨gb292, 1, none⟩ = some (.int .i64 a0_1) := (blk_cell BK292.out 1).trans rfl
                 have hfz66_0 := blk_frozen BK292.out 0
                 have hfz66_1 := blk_frozen BK292.out 1
                 go_upto_region 25 with (first | ((with_reducible refine gate_callee (f := 18) rfl ?_); refine goesL_ (some 75) rfl rfl Try.func18 (by kernel_rfl) rfl #[.agg #[.slice A0_0 l0_0.length c0_0, .int .i64 a0_1]] rfl (by (try simp only [List.map_toArray, List.map_cons, List.map_nil]); first | done | rfl | (simp only [List.length_drop, List.length_take]; rfl)) ?_; (with_reducible refine (laws_toParty.calls kj59 _ _ l0_0 a0_1 t323 t326 _ ?side1 ?side2 A62.out).mono ?_); (case side1 => repeat (first | exact (Kd.C_below HR0_0.out HB.out) | (with_reducible refine ca' ?_ _) | (with_reducible refine cn' ?_ _) | (with_reducible refine cd' ?_))); (case side2 => exact HC0_0.out); rintro e w67 ⟨v324, rfl, ho0, hb⟩; refine ⟨_, rfl, ?_⟩; obtain ⟨D337_, hdl_, hdg_⟩ := dlt_of hb; have D337_lt := am' hdl_; have D337_ge := am' hdg_; clear hdl_ hdg_; have n0_ := am' (Kd.R_elder' (Kd.R_dlt (by (with_reducible repeat (first | apply ra' | apply rn' | apply rw')); exact HO_4.out) D337_lt.out) (Kd.R_base ho0) hb); have n1_ := am' (Kd.R_elder' (Kd.R_dlt (by (with_reducible repeat (first | apply ra' | apply rn' | apply rw')); exact HO_7.out) D337_lt.out) (Kd.R_base ho0) hb); have n2_ := am' (Kd.R_elder' (Kd.R_dlt (by (with_reducible repeat (first | apply ra' | apply rn' | apply rw')); exact HO_307000.out) D337_lt.out) (Kd.R_base ho0) hb); have n3_ := am' (Kd.R_lower (Kd.R_new' (Kd.R_new' (Kd.R_new' (Kd.R_dge ho0 D337_ge.out) (Kd.R_lt (by (with_reducible repeat (first | apply ra' | apply rn' | apply rw')); exact HO_4.out))) (Kd.R_lt (by (with_reducible repeat (first | apply ra' | apply rn' | apply rw')); exact HO_7.out))) (Kd.R_lt (by (with_reducible repeat (first | apply ra' | apply rn' | apply rw')); exact HO_307000.out))) (below_size (by repeat (first | (with_reducible first | exact HB.out | apply ba' | apply bd' | apply be' | refine bs' ?_ GE292.out | refine bs' ?_ GE306.out) | exact HB.out)))); have n4_ := am' (blk_below (g := gb292) (o := .cells #[.slice A0_0 l0_0.length c0_0, .int .i64 a0_1] 24 (0, 0)) (by (with_reducible repeat (first | refine kn' ?_ _ | refine kd' ?_ | refine ka' ?_ _)); exact BK292.out) hb); have n5_ := am' (blk_below (g := gb306) (o := .cells #[.slice Ao20 t318.length co20, .int .i64 t305] 28 (0, 0)) (by (with_reducible repeat (first | refine kn' ?_ _ | refine kd' ?_ | refine ka' ?_ _)); exact BK306.out) hb); have n6_ := am' (below_step (by repeat (first | (with_reducible first | exact HB.out | apply ba' | apply bd' | apply be' | refine bs' ?_ GE292.out | refine bs' ?_ GE306.out) | exact HB.out)) hb); clear HO_4; clear HO_7; clear HO_307000; clear BK292; clear BK306; clear HB; have HO_4 := n0_; have HO_7 := n1_; have HO_307000 := n2_; have HO325 := n3_; have BK292 := n4_; have BK306 := n5_; have HB := n6_; clear n0_ n1_ n2_ n3_ n4_ n5_ n6_; (try clear hb); (try clear hb2); (try clear hk); (try clear hi); (try clear ho0); obtain ⟨Ao68, co68, eo68⟩ := Kd.R_slice HO325.out; subst eo68) | ((with_reducible refine gate_callee (f := 30) rfl ?_); refine goesL_ (some 76) rfl rfl Try.func30 (by kernel_rfl) rfl #[.agg #[.slice Ao68 t323.length co68, .int .i64 t326]] rfl (by (try simp only [List.map_toArray, List.map_cons, List.map_nil]); first | done | rfl | (simp only [List.length_drop, List.length_take]; rfl)) ?_; (with_reducible refine (impl_TimesBySeats.calls kj59 _ _ t323 t326 t327 t330 _ ?side1 ?side2 A63.out).mono ?_); (case side1 => repeat (first | exact (Kd.R_reads' HO325.out).2.2 | (with_reducible refine ca' ?_ _) | (with_reducible refine cn' ?_ _) | (with_reducible refine cd' ?_))); (case side2 => exact (Kd.R_reads' HO325.out).2.1); rintro e w69 ⟨v328, rfl, ho0, hb⟩; refine ⟨_, rfl, ?_⟩; obtain ⟨D338_, hdl_, hdg_⟩ := dlt_of hb; have D338_lt := am' hdl_; have D338_ge := am' hdg_; clear hdl_ hdg_; have n0_ := am' (Kd.R_elder' (Kd.R_dlt (by (with_reducible repeat (first | apply ra' | apply rn' | apply rw')); exact HO_4.out) D338_lt.out) (Kd.R_base ho0) hb); have n1_ := am' (Kd.R_elder' (Kd.R_dlt (by (with_reducible repeat (first | apply ra' | apply rn' | apply rw')); exact HO_7.out) D338_lt.out) (Kd.R_base ho0) hb); have n2_ := am' (Kd.R_elder' (Kd.R_dlt (by (with_reducible repeat (first | apply ra' | apply rn' | apply rw')); exact HO_307000.out) D338_lt.out) (Kd.R_base ho0) hb); have n3_ := am' (Kd.R_elder' (Kd.R_dlt (by (with_reducible repeat (first | apply ra' | apply rn' | apply rw')); exact HO325.out) D338_lt.out) (Kd.R_base ho0) hb); have n4_ := am' (Kd.R_lower (Kd.R_new' (Kd.R_new' (Kd.R_new' (Kd.R_new' (Kd.R_dge ho0 D338_ge.out) (Kd.R_lt (by (with_reducible repeat (first | apply ra' | apply rn' | apply rw')); exact HO_4.out))) (Kd.R_lt (by (with_reducible repeat (first | apply ra' | apply rn' | apply rw')); exact HO_7.out))) (Kd.R_lt (by (with_reducible repeat (first | apply ra' | apply rn' | apply rw')); exact HO_307000.out))) (Kd.R_lt (by (with_reducible repeat (first | apply ra' | apply rn' | apply rw')); exact HO325.out))) (below_size (by repeat (first | (with_reducible first | exact HB.out | apply ba' | apply bd' | apply be' | refine bs' ?_ GE292.out | refine bs' ?_ GE306.out) | exact HB.out)))); have n5_ := am' (blk_below (g := gb292) (o := .cells #[.slice A0_0 l0_0.length c0_0, .int .i64 a0_1] 24 (0, 0)) (by (with_reducible repeat (first | refine kn' ?_ _ | refine kd' ?_ | refine ka' ?_ _)); exact BK292.out) hb); have n6_ := am' (blk_below (g := gb306) (o := .cells #[.slice Ao20 t318.length co20, .int .i64 t305] 28 (0, 0)) (by (with_reducible repeat (first | refine kn' ?_ _ | refine kd' ?_ | refine ka' ?_ _)); exact BK306.out) hb); have n7_ := am' (below_step (by repeat (first | (with_reducible first | exact HB.out | apply ba' | apply bd' | apply be' | refine bs' ?_ GE292.out | refine bs' ?_ GE306.out) | exact HB.out)) hb); clear HO_4; clear HO_7; clear HO_307000; clear HO325; clear BK292; clear BK306; clear HB; have HO_4 := n0_; have HO_7 := n1_; have HO_307000 := n2_; have HO325 := n3_; have HO329 := n4_; have BK292 := n5_; have BK306 := n6_; have HB := n7_; clear n0_ n1_ n2_ n3_ n4_ n5_ n6_ n7_; (try clear hb); (try clear hb2); (try clear hk); (try clear hi); (try clear ho0)))
                 (try simp only [Act.put, sa', sb', sc'])
                 go_cut [87] (fun v87 wc => ∃ (kq : Nat) (x87_63 : Bool), v87 = .bool x87_63 ∧ Aside0 (laws_FnExactTimesBySeats.j8 kq t321 t320 x87_63 = some r) ∧ Aside0 (kq ≤ kj59) ∧ Aside0 (Kd.R (Kd.int .i64) 3 wc w.heap.size (fun k_ => some k_ ≠ ((.slice Ao20 t318.length co20) : Value).ownBlock ∧ ¬ D336_ k_ ∧ D337_ k_ ∧ D338_ k_) (.slice Ao57 t321.length co57) t321) ∧ Aside0 (Kd.R (Kd.int .i64) 3 wc w.heap.size (fun k_ => some k_ ≠ ((.slice Ao57 t321.length co57) : Value).ownBlock ∧ ¬ D335_ k_ ∧ D336_ k_ ∧ D337_ k_ ∧ D338_ k_) (.slice Ao20 t318.length co20) t318) ∧ Aside0 (wc.heap[gb292]? = some (.cells #[(.slice A0_0 l0_0.length c0_0), .int .i64 a0_1] 24 (0, 0))) ∧ Aside0 (wc.heap[gb306]? = some (.cells #[(.slice Ao20 t318.length co20), .int .i64 t305] 28 (0, 0))) ∧ Aside0 (Below w.heap.size w wc))
                 case first =>
                  have H := HC64.out
                  clear HC64; replace H := Option.bind_eq_some_iff.mp H
                  obtain ⟨t331, A700, H⟩ := H
                  replace H : (if t331 = true then (laws_FnExactTimesBySeats.j8 kj59 t321 t320 (t330 != t301)) else (laws_FnExactTimesBySeats.j8 kj59 t321 t320 true)) = some r := H
                  have A70 := am' A700
                  clear A700; by_cases c71 : t331 = true
                  ·
                   subst c71; have H1 : (laws_FnExactTimesBySeats.j8 kj59 t321 t320 (t330 != t301)) = some r := by rw [if_pos rfl] at H; exact H
                   clear H; have H := H1; clear H1; have H' := am' H
                   clear H; obtain ⟨Ao72, co72, eo72⟩ := Kd.R_slice HO329.out
                   subst eo72; obtain ⟨Ao73, co73, eo73⟩ := Kd.R_slice HO_4.out
                   subst eo73; go_wp2_with (first | ((with_reducible refine gate_callee (f := 31) rfl ?_); refine goesL_ (some 81) rfl rfl Try.func31 (by kernel_rfl) rfl #[.slice Ao72 t327.length co72, .slice Ao73 t298.length co73] rfl (by (try simp only [List.map_toArray, List.map_cons, List.map_nil]); first | done | rfl | (simp only [List.length_drop, List.length_take]; rfl)) ?_; (with_reducible refine (laws_eqIntS.calls kj59 _ _ t327 _ _ t298 true _ ?side1 ?side2 ?side3 ?side4 A70.out).mono ?_); (case side1 => repeat (first | exact (Kd.R_reads' HO329.out).2.2 | (with_reducible refine ca' ?_ _) | (with_reducible refine cn' ?_ _) | (with_reducible refine cd' ?_))); (case side2 => exact (Kd.R_reads' HO329.out).2.1); (case side3 => repeat (first | exact (Kd.R_reads' HO_4.out).2.2 | (with_reducible refine ca' ?_ _) | (with_reducible refine cn' ?_ _) | (with_reducible refine cd' ?_))); (case side4 => exact (Kd.R_reads' HO_4.out).2.1); rintro e w' ⟨rfl, ⟨nd, rfl⟩⟩; refine ⟨_, rfl, ?_⟩))
                   go_meet
                   case rel => exact ⟨_, ((t330 != t301)), (by first | rfl | (simp; done) | (simp [*]; done)), H', ⟨by have := HJ2.out; have := HJ11.out; have := HJ29.out; have := HJ33.out; have := HJ40.out; have := HJ51.out; have := HJ55.out; have := HJ59.out; first | omega | exact Nat.le_refl _⟩, ⟨by (try simp only [hl307000_40]); (try simp only [hl7_55]); (with_reducible repeat (first | apply ra' | apply rn' | apply rw')); exact Kd.R_mono HO_7.out (fun _ hk => ⟨hk.1.1.1.1.2.1, ⟨hk.1.1.1.1.2.2, ⟨hk.1.1.1.2, hk.1.2⟩⟩⟩)⟩, ⟨by (try simp only [hl307000_40]); (try simp only [hl7_55]); (with_reducible repeat (first | apply ra' | apply rn' | apply rw')); exact Kd.R_mono HO_307000.out (fun _ hk => ⟨hk.1.1.1.1.2.1, ⟨hk.1.1.1.1.2.2.1, ⟨hk.1.1.1.1.2.2.2, ⟨hk.1.1.1.2, hk.1.2⟩⟩⟩⟩)⟩, ⟨by (try simp only [hl307000_40]); (try simp only [hl7_55]); (with_reducible repeat (first | refine kn' ?_ _ | refine kd' ?_ | refine ka' ?_ _)); exact BK292.out⟩, ⟨by (try simp only [hl307000_40]); (try simp only [hl7_55]); (with_reducible repeat (first | refine kn' ?_ _ | refine kd' ?_ | refine ka' ?_ _)); exact BK306.out⟩, ⟨by repeat (first | (with_reducible first | exact HB.out | apply ba' | apply bd' | apply be' | refine bs' ?_ GE292.out | refine bs' ?_ GE306.out) | exact HB.out)⟩⟩
                  ·
                   replace c71 := Bool.eq_false_iff.mpr c71
                   subst c71; have H1 : (laws_FnExactTimesBySeats.j8 kj59 t321 t320 true) = some r := by rw [if_neg (show ¬ (false = true) by decide)] at H; exact H
                   clear H; have H := H1; clear H1; have H' := am' H
                   clear H; obtain ⟨Ao74, co74, eo74⟩ := Kd.R_slice HO329.out
                   subst eo74; obtain ⟨Ao75, co75, eo75⟩ := Kd.R_slice HO_4.out
                   subst eo75; go_wp2_with (first | ((with_reducible refine gate_callee (f := 31) rfl ?_); refine goesL_ (some 81) rfl rfl Try.func31 (by kernel_rfl) rfl #[.slice Ao74 t327.length co74, .slice Ao75 t298.length co75] rfl (by (try simp only [List.map_toArray, List.map_cons, List.map_nil]); first | done | rfl | (simp only [List.length_drop, List.length_take]; rfl)) ?_; (with_reducible refine (laws_eqIntS.calls kj59 _ _ t327 _ _ t298 false _ ?side1 ?side2 ?side3 ?side4 A70.out).mono ?_); (case side1 => repeat (first | exact (Kd.R_reads' HO329.out).2.2 | (with_reducible refine ca' ?_ _) | (with_reducible refine cn' ?_ _) | (with_reducible refine cd' ?_))); (case side2 => exact (Kd.R_reads' HO329.out).2.1); (case side3 => repeat (first | exact (Kd.R_reads' HO_4.out).2.2 | (with_reducible refine ca' ?_ _) | (with_reducible refine cn' ?_ _) | (with_reducible refine cd' ?_))); (case side4 => exact (Kd.R_reads' HO_4.out).2.1); rintro e w' ⟨rfl, ⟨nd, rfl⟩⟩; refine ⟨_, rfl, ?_⟩))
                   go_meet
                   case rel => exact ⟨_, (true), (by first | rfl | (simp; done) | (simp [*]; done)), H', ⟨by have := HJ2.out; have := HJ11.out; have := HJ29.out; have := HJ33.out; have := HJ40.out; have := HJ51.out; have := HJ55.out; have := HJ59.out; first | omega | exact Nat.le_refl _⟩, ⟨by (try simp only [hl307000_40]); (try simp only [hl7_55]); (with_reducible repeat (first | apply ra' | apply rn' | apply rw')); exact Kd.R_mono HO_7.out (fun _ hk => ⟨hk.1.1.1.1.2.1, ⟨hk.1.1.1.1.2.2, ⟨hk.1.1.1.2, hk.1.2⟩⟩⟩)⟩, ⟨by (try simp only [hl307000_40]); (try simp only [hl7_55]); (with_reducible repeat (first | apply ra' | apply rn' | apply rw')); exact Kd.R_mono HO_307000.out (fun _ hk => ⟨hk.1.1.1.1.2.1, ⟨hk.1.1.1.1.2.2.1, ⟨hk.1.1.1.1.2.2.2, ⟨hk.1.1.1.2, hk.1.2⟩⟩⟩⟩)⟩, ⟨by (try simp only [hl307000_40]); (try simp only [hl7_55]); (with_reducible repeat (first | refine kn' ?_ _ | refine kd' ?_ | refine ka' ?_ _)); exact BK292.out⟩, ⟨by (try simp only [hl307000_40]); (try simp only [hl7_55]); (with_reducible repeat (first | refine kn' ?_ _ | refine kd' ?_ | refine ka' ?_ _)); exact BK306.out⟩, ⟨by repeat (first | (with_reducible first | exact HB.out | apply ba' | apply bd' | apply be' | refine bs' ?_ GE292.out | refine bs' ?_ GE306.out) | exact HB.out)⟩⟩
                 case rest =>
                  clear HC64; try clear c1
                  try clear c2
                  try clear p2
                  try clear c3
                  try clear c4
                  try clear c5
                  try clear c6
                  try clear c7
                  try clear c7b0
                  try clear c8
                  try clear c16
                  try clear c18
                  try clear c20
                  try clear c21
                  try clear c25
                  try clear c29
                  try clear c30
                  try clear c31
                  try clear c32
                  try clear c33
                  try clear c34
                  try clear c39
                  try clear c42
                  try clear c45
                  try clear c45b0
                  try clear c47
                  try clear c53
                  try clear c59
                  try clear c59b0
                  try clear c61
                  try clear c61b0
                  try clear c61b1
                  try clear c65
                  try clear c71
                  try clear hcz13_0
                  try clear hcz13_1
                  try clear hcz17_0
                  try clear hcz17_1
                  try clear hcz22_0
                  try clear hcz22_1
                  try clear hcz43_0
                  try clear hcz43_1
                  try clear hcz5_0
                  try clear hcz5_1
                  try clear hcz66_0
                  try clear hcz66_1
                  try clear hfz13_0
                  try clear hfz13_1
                  try clear hfz17_0
                  try clear hfz17_1
                  try clear hfz22_0
                  try clear hfz22_1
                  try clear hfz43_0
                  try clear hfz43_1
                  try clear hfz5_0
                  try clear hfz5_1
                  try clear hfz66_0
                  try clear hfz66_1
                  try clear p2
                  obtain ⟨kq, x87_63, rfl, HA, HJ63, HO_7, HO_307000, BK292, BK306, HB⟩ := hcut
                  cases kq with
                  | zero => exact absurd HA.out (by simp [laws_FnExactTimesBySeats.j8])
                  | succ kj63 =>
                   have H := HA.out
                   clear HA; simp only [laws_FnExactTimesBySeats.j8] at H
                   have HC76 := am' H
                   clear H; go_upto_if 87 with (fail)
                   go_cut [] (fun wc => ∃ (kq : Nat), Aside0 (laws_FnExactTimesBySeats.j9 kq t321 t320 = some r) ∧ Aside0 (kq ≤ kj63) ∧ Aside0 (Kd.R (Kd.int .i64) 3 wc w.heap.size (fun k_ => some k_ ≠ ((.slice Ao20 t318.length co20) : Value).ownBlock ∧ ¬ D336_ k_ ∧ D337_ k_ ∧ D338_ k_) (.slice Ao57 t321.length co57) t321) ∧ Aside0 (Kd.R (Kd.int .i64) 3 wc w.heap.size (fun k_ => some k_ ≠ ((.slice Ao57 t321.length co57) : Value).ownBlock ∧ ¬ D335_ k_ ∧ D336_ k_ ∧ D337_ k_ ∧ D338_ k_) (.slice Ao20 t318.length co20) t318) ∧ Aside0 (wc.heap[gb292]? = some (.cells #[(.slice A0_0 l0_0.length c0_0), .int .i64 a0_1] 24 (0, 0))) ∧ Aside0 (wc.heap[gb306]? = some (.cells #[(.slice Ao20 t318.length co20), .int .i64 t305] 28 (0, 0))) ∧ Aside0 (Below w.heap.size w wc))
                   case first =>
                    have H := HC76.out
                    clear HC76; by_cases c77 : x87_63 = true
                    ·
                     subst c77; have H1 : (some false) = some r := by rw [if_pos rfl] at H; exact H
                     clear H; have H := H1; clear H1; obtain rfl := Option.some.inj H
                     go_wp2
                     go_ret
                     exact ⟨by first | rfl | (simp [errW_none, errW_some] <;> rfl) | (simp [*, errW_none, errW_some] <;> rfl), by repeat (first | (with_reducible first | exact HB.out | apply ba' | apply bd' | apply be' | refine bs' ?_ GE292.out | refine bs' ?_ GE306.out) | exact HB.out)⟩
                    ·
                     replace c77 := Bool.eq_false_iff.mpr c77
                     subst c77; have H1 : (laws_FnExactTimesBySeats.j9 kj63 t321 t320) = some r := by rw [if_neg (show ¬ (false = true) by decide)] at H; exact H
                     clear H; have H := H1; clear H1; have H' := am' H
                     clear H; go_wp2
                     go_meet
                     case rel => exact ⟨_, H', ⟨by have := HJ2.out; have := HJ11.out; have := HJ29.out; have := HJ33.out; have := HJ40.out; have := HJ51.out; have := HJ55.out; have := HJ59.out; have := HJ63.out; first | omega | exact Nat.le_refl _⟩, ⟨by (try simp only [hl307000_40]); (try simp only [hl7_55]); (with_reducible repeat (first | apply ra' | apply rn' | apply rw')); exact HO_7.out⟩, ⟨by (try simp only [hl307000_40]); (try simp only [hl7_55]); (with_reducible repeat (first | apply ra' | apply rn' | apply rw')); exact HO_307000.out⟩, ⟨by (try simp only [hl307000_40]); (try simp only [hl7_55]); (with_reducible repeat (first | refine kn' ?_ _ | refine kd' ?_ | refine ka' ?_ _)); exact BK292.out⟩, ⟨by (try simp only [hl307000_40]); (try simp only [hl7_55]); (with_reducible repeat (first | refine kn' ?_ _ | refine kd' ?_ | refine ka' ?_ _)); exact BK306.out⟩, ⟨by repeat (first | (with_reducible first | exact HB.out | apply ba' | apply bd' | apply be' | refine bs' ?_ GE292.out | refine bs' ?_ GE306.out) | exact HB.out)⟩⟩
                   case rest =>
                    clear HC76; try clear c1
                    try clear c2
                    try clear p2
                    try clear c3
                    try clear c4
                    try clear c5
                    try clear c6
                    try clear c7
                    try clear c7b0
                    try clear c8
                    try clear c16
                    try clear c18
                    try clear c20
                    try clear c21
                    try clear c25
                    try clear c29
                    try clear c30
                    try clear c31
                    try clear c32
                    try clear c33
                    try clear c34
                    try clear c39
                    try clear c42
                    try clear c45
                    try clear c45b0
                    try clear c47
                    try clear c53
                    try clear c59
                    try clear c59b0
                    try clear c61
                    try clear c61b0
                    try clear c61b1
                    try clear c65
                    try clear c71
                    try clear c77
                    try clear hcz13_0
                    try clear hcz13_1
                    try clear hcz17_0
                    try clear hcz17_1
                    try clear hcz22_0
                    try clear hcz22_1
                    try clear hcz43_0
                    try clear hcz43_1
                    try clear hcz5_0
                    try clear hcz5_1
                    try clear hcz66_0
                    try clear hcz66_1
                    try clear hfz13_0
                    try clear hfz13_1
                    try clear hfz17_0
                    try clear hfz17_1
                    try clear hfz22_0
                    try clear hfz22_1
                    try clear hfz43_0
                    try clear hfz43_1
                    try clear hfz5_0
                    try clear hfz5_1
                    try clear hfz66_0
                    try clear hfz66_1
                    try clear p2
                    obtain ⟨kq, HA, HJ75, HO_7, HO_307000, BK292, BK306, HB⟩ := hcut
                    cases kq with
                    | zero => exact absurd HA.out (by simp [laws_FnExactTimesBySeats.j9])
                    | succ kj75 =>
                     have H := HA.out
                     clear HA; simp only [laws_FnExactTimesBySeats.j9] at H
                     replace H := Option.bind_eq_some_iff.mp H
                     obtain ⟨t332, A780, H⟩ := H
                     replace H : (if t332 < 0 then (some false) else (if t332 = t320 then (some true) else (some false))) = some r := H
                     have A78 := am' A780
                     clear A780; by_cases c79 : t332 < 0
                     ·
                      rw [if_pos c79] at H; have c79b0 : decide (t332 < 0) = true := decide_eq_true c79
                      clear c79; obtain rfl := Option.some.inj H
                      go_wp2_with (first | ((with_reducible refine gate_callee (f := 34) rfl ?_); refine goesL_ (some 90) rfl rfl Try.func34 (by kernel_rfl) rfl #[.slice Ao57 t321.length co57, .int .i64 1] rfl (by (try simp only [List.map_toArray, List.map_cons, List.map_nil]); first | done | rfl | (simp only [List.length_drop, List.length_take]; rfl)) ?_; (with_reducible refine (laws_heldIntS.calls kj75 _ _ t321 1 t332 _ ?side1 ?side2 A78.out).mono ?_); (case side1 => repeat (first | exact (Kd.R_reads' HO_7.out).2.2 | (with_reducible refine ca' ?_ _) | (with_reducible refine cn' ?_ _) | (with_reducible refine cd' ?_))); (case side2 => exact (Kd.R_reads' HO_7.out).2.1); rintro e w' ⟨rfl, ⟨nd, rfl⟩⟩; refine ⟨_, rfl, ?_⟩))
                      go_ret
                      exact ⟨by first | rfl | (simp [errW_none, errW_some] <;> rfl) | (simp [*, errW_none, errW_some] <;> rfl), by repeat (first | (with_reducible first | exact HB.out | apply ba' | apply bd' | apply be' | refine bs' ?_ GE292.out | refine bs' ?_ GE306.out) | exact HB.out)⟩
                     ·
                      rw [if_neg c79] at H; have c79b0 : decide (t332 < 0) = false := decide_eq_false c79
                      clear c79; by_cases c80 : t332 = t320
                      ·
                       rw [if_pos c80] at H; have c80b0 : (t332 == t320) = true := beq_iff_eq.mpr c80
                       have c80b1 : (t332 != t320) = false := bne_eq_false_iff_eq.mpr c80
                       clear c80; obtain rfl := Option.some.inj H
                       go_wp2_with (first | ((with_reducible refine gate_callee (f := 34) rfl ?_); refine goesL_ (some 90) rfl rfl Try.func34 (by kernel_rfl) rfl #[.slice Ao57 t321.length co57, .int .i64 1] rfl (by (try simp only [List.map_toArray, List.map_cons, List.map_nil]); first | done | rfl | (simp only [List.length_drop, List.length_take]; rfl)) ?_; (with_reducible refine (laws_heldIntS.calls kj75 _ _ t321 1 t332 _ ?side1 ?side2 A78.out).mono ?_); (case side1 => repeat (first | exact (Kd.R_reads' HO_7.out).2.2 | (with_reducible refine ca' ?_ _) | (with_reducible refine cn' ?_ _) | (with_reducible refine cd' ?_))); (case side2 => exact (Kd.R_reads' HO_7.out).2.1); rintro e w' ⟨rfl, ⟨nd, rfl⟩⟩; refine ⟨_, rfl, ?_⟩))
                       go_ret
                       exact ⟨by first | rfl | (simp [errW_none, errW_some] <;> rfl) | (simp [*, errW_none, errW_some] <;> rfl), by repeat (first | (with_reducible first | exact HB.out | apply ba' | apply bd' | apply be' | refine bs' ?_ GE292.out | refine bs' ?_ GE306.out) | exact HB.out)⟩
                      ·
                       rw [if_neg c80] at H; have c80b0 : (t332 == t320) = false := beq_eq_false_iff_ne.mpr c80
                       have c80b1 : (t332 != t320) = true := bne_iff_ne.mpr c80
                       obtain rfl := Option.some.inj H
                       go_wp2_with (first | ((with_reducible refine gate_callee (f := 34) rfl ?_); refine goesL_ (some 90) rfl rfl Try.func34 (by kernel_rfl) rfl #[.slice Ao57 t321.length co57, .int .i64 1] rfl (by (try simp only [List.map_toArray, List.map_cons, List.map_nil]); first | done | rfl | (simp only [List.length_drop, List.length_take]; rfl)) ?_; (with_reducible refine (laws_heldIntS.calls kj75 _ _ t321 1 t332 _ ?side1 ?side2 A78.out).mono ?_); (case side1 => repeat (first | exact (Kd.R_reads' HO_7.out).2.2 | (with_reducible refine ca' ?_ _) | (with_reducible refine cn' ?_ _) | (with_reducible refine cd' ?_))); (case side2 => exact (Kd.R_reads' HO_7.out).2.1); rintro e w' ⟨rfl, ⟨nd, rfl⟩⟩; refine ⟨_, rfl, ?_⟩))
                       go_ret
                       exact ⟨by first | rfl | (simp [errW_none, errW_some] <;> rfl) | (simp [*, errW_none, errW_some] <;> rfl), by repeat (first | (with_reducible first | exact HB.out | apply ba' | apply bd' | apply be' | refine bs' ?_ GE292.out | refine bs' ?_ GE306.out) | exact HB.out)⟩
end Go.Proofs.Ytamljjfhkolflaa.C2
