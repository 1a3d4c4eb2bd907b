import Derived.Test.YtikjdmiohpdnaaaC14zx0
import Derived.Test.YtikjdmiohpdnaaaC14zx1
import Derived.Test.YtikjdmiohpdnaaaC14zx10
import Derived.Test.YtikjdmiohpdnaaaC14zx14
import Derived.Test.YtikjdmiohpdnaaaC14zAl
namespace Go.Proofs.Ytikjdmiohpdnaaa.C14
open Go.RowKit Go.Proofs.YtikjdmiohpdnaaaW.PrintWords Go.Proofs.YtikjdmiohpdnaaaW.PrintLast Go.Proofs.YtikjdmiohpdnaaaW.PrintMore Go.Proofs.Ytikjdmiohpdnaaa.H
attribute [local go_sem] max2_int min2_int max_two min_two max_three min_three max_four min_four
set_option linter.unusedVariables false
set_option linter.unusedSimpArgs false
mutual
def laws_FnExactFewestOfCrew.j0 : Nat → List Int → List Bool → Int → Option (Bool)
 | 0, _, _, _ => none
 | k + 1, x345000, x345001, x345002 => (laws_toCrew.f k x345000 x345001 x345002).bind fun bt346 => ((spec_FewestOfCrew.f k bt346.1 bt346.2.1 bt346.2.2).bind fun bt353 => ((laws_toCrew.f k x345000 x345001 x345002).bind fun bt355 => ((impl_FewestOfCrew.f k bt355.1 bt355.2.1 bt355.2.2).bind fun bt363 => (if bt363.1 = bt353.1 then (laws_FnExactFewestOfCrew.j1 k (bt363.2 != bt353.2) x345000 x345001 x345002 bt355.1 bt355.2.1 bt355.2.2) else (laws_FnExactFewestOfCrew.j1 k true x345000 x345001 x345002 bt355.1 bt355.2.1 bt355.2.2)))))
def laws_FnExactFewestOfCrew.j1 : Nat → Bool → List Int → List Bool → Int → List Int → List Bool → Int → Option (Bool)
 | 0, _, _, _, _, _, _, _ => none
 | k + 1, x34, x345000, x345001, x345002, x363000, x363001, x363002 => if x34 = true then (some false) else (laws_FnExactFewestOfCrew.j2 k x345000 x345001 x345002 x363000 x363001 x363002)
def laws_FnExactFewestOfCrew.j2 : Nat → List Int → List Bool → Int → List Int → List Bool → Int → Option (Bool)
 | 0, _, _, _, _, _, _ => none
 | k + 1, x345000, x345001, x345002, x363000, x363001, x363002 => (laws_toCrew.f k x345000 x345001 x345002).bind fun bt365 => ((laws_eqCrew.f k x363000 x363001 x363002 bt365.1 bt365.2.1 bt365.2.2).bind fun t372 => (if t372 = true then (some true) else (some false)))
end
def laws_FnExactFewestOfCrew.f (k : Nat) (l0_0 : List Int) (l0_1 : List Bool) (a0_2 : Int) : Option (Bool) := (laws_szCrew.f l0_0 l0_1 a0_2 1048576).bind fun t345 => (if t345 < 0 then (some true) else (laws_FnExactFewestOfCrew.j0 k l0_0 l0_1 a0_2))
set_option maxHeartbeats 8000000 in
set_option maxRecDepth 100000 in
theorem laws_FnExactFewestOfCrew.calls (k : Nat) (A0_0 : Option Addr) (c0_0 : Nat) (l0_0 : List Int) (A0_1 : Option Addr) (c0_1 : Nat) (l0_1 : List Bool) (a0_2 : Int) (r : Bool) (w : World) (hr0_0 : Kd.C (Kd.int .i64) w A0_0 l0_0.length l0_0) (hc0_0 : l0_0.length ≤ c0_0) (hr0_1 : Kd.C Kd.bool w A0_1 l0_1.length l0_1) (hc0_1 : l0_1.length ≤ c0_1) (h : laws_FnExactFewestOfCrew.f k l0_0 l0_1 a0_2 = some r) :
  Calls Try.prog 10 #[.agg #[.slice A0_0 l0_0.length c0_0, .slice A0_1 l0_1.length c0_1, .int .i64 a0_2]] w fun e w' => e = .returned (.bool r) ∧ Below w.heap.size w w' := by
 have hu25 := Try.underlying25
 have hu29 := Try.underlying29
 have HR0_0 := am' hr0_0
 have HC0_0 := am' hc0_0
 clear hr0_0 hc0_0; have HR0_1 := am' hr0_1
 have HC0_1 := am' hc0_1
 clear hr0_1 hc0_1; have HB := am' (Below.refl w.heap.size w)
 have H : ((laws_szCrew.f l0_0 l0_1 a0_2 1048576).bind fun t345 => (if t345 < 0 then (some true) else (laws_FnExactFewestOfCrew.j0 k l0_0 l0_1 a0_2))) = some r := h
 clear h; replace H := Option.bind_eq_some_iff.mp H
 obtain ⟨t345, A20, H⟩ := H
 replace H : (if t345 < 0 then (some true) else (laws_FnExactFewestOfCrew.j0 k l0_0 l0_1 a0_2)) = some r := H
 have A2 := am' A20
 clear A20; have HC3 := am' H
 clear H; go_enter Try.func10, Try.ntmps10
 go_upto_if 13 with (first | ((with_reducible refine gate_dst (N := 1) rfl ?_); refine box_event ?hg (N := 1) ?hd (cs := #[.slice A0_0 l0_0.length c0_0, .slice A0_1 l0_1.length c0_1, .int .i64 a0_2]) (t := 25) ?hr ?_; (case hd => rfl); (case hg => rfl); (case hr => first | (go_simp; done) | (go_simp; rfl)); intro gb344 hg w4 hbox hb; have n0_ := am' (below_step (by repeat (first | (with_reducible first | exact HB.out | apply ba' | apply bd' | apply be') | exact HB.out)) hb); have n1_ := am' (hbox); have n2_ := am' ((by rw [hg]; exact (below_size (by repeat (first | (with_reducible first | exact HB.out | apply ba' | apply bd' | apply be') | exact HB.out))) : w.heap.size ≤ gb344)); have n3_ := am' ((by rw [hg]; exact (below_size (by repeat (first | (with_reducible first | exact HB.out | apply ba' | apply bd' | apply be') | exact HB.out))) : w.heap.size ≤ gb344)); clear HB; have HB := n0_; have BK344 := n1_; have GW344 := n2_; have GE344 := n3_; clear n0_ n1_ n2_ n3_; clear hb hbox hg; have hcz5_0 : w4.cell? ⟨gb344, 0, none⟩ = some (.slice A0_0 l0_0.length c0_0) := (blk_cell BK344.out 0).trans rfl; have hcz5_1 : w4.cell? ⟨gb344, 1, none⟩ = some (.slice A0_1 l0_1.length c0_1) := (blk_cell BK344.out 1).trans rfl; have hcz5_2 : w4.cell? ⟨gb344, 2, none⟩ = some (.int .i64 a0_2) := (blk_cell BK344.out 2).trans rfl; have hfz5_0 := blk_frozen BK344.out 0; have hfz5_1 := blk_frozen BK344.out 1; have hfz5_2 := blk_frozen BK344.out 2) | ((with_reducible refine gate_callee (f := 12) rfl ?_); refine goesL_ (some 11) rfl rfl Try.func12 (by kernel_rfl) rfl #[.agg #[.slice A0_0 l0_0.length c0_0, .slice A0_1 l0_1.length c0_1, .int .i64 a0_2], .int .i64 1048576] rfl (by (try simp only [List.map_toArray, List.map_cons, List.map_nil]); first | done | rfl | (simp only [List.length_drop, List.length_take]; rfl)) ?_; (with_reducible refine (laws_szCrew.calls _ _ l0_0 _ _ l0_1 a0_2 1048576 t345 _ ?side1 ?side2 ?side3 ?side4 A2.out).mono ?_); (case side1 => repeat (first | exact (Kd.C_below HR0_0.out HB.out) | (with_reducible refine ca' ?_ _) | (with_reducible refine cn' ?_ _) | (with_reducible refine cd' ?_))); (case side2 => exact HC0_0.out); (case side3 => repeat (first | exact (Kd.C_below HR0_1.out HB.out) | (with_reducible refine ca' ?_ _) | (with_reducible refine cn' ?_ _) | (with_reducible refine cd' ?_))); (case side4 => exact HC0_1.out); rintro e w6 ⟨rfl, hb⟩; refine ⟨_, rfl, ?_⟩; have n0_ := am' (blk_below (g := gb344) (o := .cells #[.slice A0_0 l0_0.length c0_0, .slice A0_1 l0_1.length c0_1, .int .i64 a0_2] 25 (0, 0)) (by (with_reducible repeat (first | refine kn' ?_ _ | refine kd' ?_ | refine ka' ?_ _)); exact BK344.out) hb); have n1_ := am' (below_step (by repeat (first | (with_reducible first | exact HB.out | apply ba' | apply bd' | apply be' | refine bs' ?_ GE344.out) | exact HB.out)) hb); clear BK344; clear HB; have BK344 := n0_; have HB := n1_; clear n0_ n1_; (try clear hb); (try clear hb2); (try clear hk); (try clear hi)))
 (try simp only [Act.put, sa', sb', sc'])
 go_cut [] (fun wc => ∃ (kq : Nat), Aside0 (laws_FnExactFewestOfCrew.j0 kq l0_0 l0_1 a0_2 = some r) ∧ Aside0 (kq ≤ k) ∧ Aside0 (wc.heap[gb344]? = some (.cells #[(.slice A0_0 l0_0.length c0_0), (.slice A0_1 l0_1.length c0_1), .int .i64 a0_2] 25 (0, 0))) ∧ Aside0 (Below w.heap.size w wc))
 case first =>
  have H := HC3.out
  clear HC3; by_cases c7 : t345 < 0
  ·
   rw [if_pos c7] at H; have c7b0 : decide (t345 < 0) = true := decide_eq_true c7
   clear c7; (first | rw [c7b0] | (simp only [i64_w, i32_w]; rw [c7b0]) | skip)
   obtain rfl := Option.some.inj H
   go_wp2
   go_ret
   exact ⟨by first | rfl | (simp [errW_none, errW_some] <;> rfl) | (simp [*, errW_none, errW_some] <;> rfl), by repeat (first | (with_reducible first | exact HB.out | apply ba' | apply bd' | apply be' | refine bs' ?_ GE344.out) | exact HB.out)⟩
  ·
   rw [if_neg c7] at H; have c7b0 : decide (t345 < 0) = false := decide_eq_false c7
   clear c7; (first | rw [c7b0] | (simp only [i64_w, i32_w]; rw [c7b0]) | skip)
   have H' := am' H
   clear H; go_wp2
   go_meet
   case rel => exact ⟨_, H', ⟨by first | omega | exact Nat.le_refl _⟩, ⟨by (with_reducible repeat (first | refine kn' ?_ _ | refine kd' ?_ | refine ka' ?_ _)); exact BK344.out⟩, ⟨by repeat (first | (with_reducible first | exact HB.out | apply ba' | apply bd' | apply be' | refine bs' ?_ GE344.out) | exact HB.out)⟩⟩
 case rest =>
  clear HC3; try clear c1
  try clear p2
  try clear c7
  try clear c7b0
  try clear hcz5_0
  try clear hcz5_1
  try clear hcz5_2
  try clear hfz5_0
  try clear hfz5_1
  try clear hfz5_2
  obtain ⟨kq, HA, HJ2, BK344, HB⟩ := hcut
  cases kq with
  | zero => exact absurd HA.out (by simp [laws_FnExactFewestOfCrew.j0])
  | succ kj2 =>
   have H := HA.out
   clear HA; simp only [laws_FnExactFewestOfCrew.j0] at H
   replace H := Option.bind_eq_some_iff.mp H
   obtain ⟨⟨t346, t349, t352⟩, A80, H⟩ := H
   replace H : ((spec_FewestOfCrew.f kj2 t346 t349 t352).bind fun bt353 => ((laws_toCrew.f kj2 l0_0 l0_1 a0_2).bind fun bt355 => ((impl_FewestOfCrew.f kj2 bt355.1 bt355.2.1 bt355.2.2).bind fun bt363 => (if bt363.1 = bt353.1 then (laws_FnExactFewestOfCrew.j1 kj2 (bt363.2 != bt353.2) l0_0 l0_1 a0_2 bt355.1 bt355.2.1 bt355.2.2) else (laws_FnExactFewestOfCrew.j1 kj2 true l0_0 l0_1 a0_2 bt355.1 bt355.2.1 bt355.2.2))))) = some r := H
   have A8 := am' A80
   clear A80; replace H := Option.bind_eq_some_iff.mp H
   obtain ⟨⟨t353, t354⟩, A90, H⟩ := H
   replace H : ((laws_toCrew.f kj2 l0_0 l0_1 a0_2).bind fun bt355 => ((impl_FewestOfCrew.f kj2 bt355.1 bt355.2.1 bt355.2.2).bind fun bt363 => (if bt363.1 = t353 then (laws_FnExactFewestOfCrew.j1 kj2 (bt363.2 != t354) l0_0 l0_1 a0_2 bt355.1 bt355.2.1 bt355.2.2) else (laws_FnExactFewestOfCrew.j1 kj2 true l0_0 l0_1 a0_2 bt355.1 bt355.2.1 bt355.2.2)))) = some r := H
   have A9 := am' A90
   clear A90; replace H := Option.bind_eq_some_iff.mp H
   obtain ⟨⟨t355, t358, t361⟩, A100, H⟩ := H
   replace H : ((impl_FewestOfCrew.f kj2 t355 t358 t361).bind fun bt363 => (if bt363.1 = t353 then (laws_FnExactFewestOfCrew.j1 kj2 (bt363.2 != t354) l0_0 l0_1 a0_2 t355 t358 t361) else (laws_FnExactFewestOfCrew.j1 kj2 true l0_0 l0_1 a0_2 t355 t358 t361))) = some r := H
   have A10 := am' A100
   clear A100; replace H := Option.bind_eq_some_iff.mp H
   obtain ⟨⟨t363, t364⟩, A110, H⟩ := H
   replace H : (if t363 = t353 then (laws_FnExactFewestOfCrew.j1 kj2 (t364 != t354) l0_0 l0_1 a0_2 t355 t358 t361) else (laws_FnExactFewestOfCrew.j1 kj2 true l0_0 l0_1 a0_2 t355 t358 t361)) = some r := H
   have A11 := am' A110
   clear A110; have HC12 := am' H
   clear H; have hcz13_0 : wc.cell? ⟨gb344, 0, none⟩ = some (.slice A0_0 l0_0.length c0_0) := (blk_cell BK344.out 0).trans rfl
   have hcz13_1 : wc.cell? ⟨gb344, 1, none⟩ = some (.slice A0_1 l0_1.length c0_1) := (blk_cell BK344.out 1).trans rfl
   have hcz13_2 : wc.cell? ⟨gb344, 2, none⟩ = some (.int .i64 a0_2) := (blk_cell BK344.out 2).trans rfl
   have hfz13_0 := blk_frozen BK344.out 0
   have hfz13_1 := blk_frozen BK344.out 1
   have hfz13_2 := blk_frozen BK344.out 2
   go_upto_region 8 with (first | ((with_reducible refine gate_callee (f := 14) rfl ?_); refine goesL_ (some 16) rfl rfl Try.func14 (by kernel_rfl) rfl #[.agg #[.slice A0_0 l0_0.length c0_0, .slice A0_1 l0_1.length c0_1, .int .i64 a0_2]] rfl (by (try simp only [List.map_toArray, List.map_cons, List.map_nil]); first | done | rfl | (simp only [List.length_drop, List.length_take]; rfl)) ?_; (with_reducible refine (laws_toCrew.calls kj2 _ _ l0_0 _ _ l0_1 a0_2 t346 t349 t352 _ ?side1 ?side2 ?side3 ?side4 A8.out).mono ?_); (case side1 => repeat (first | exact (Kd.C_below HR0_0.out HB.out) | (with_reducible refine ca' ?_ _) | (with_reducible refine cn' ?_ _) | (with_reducible refine cd' ?_))); (case side2 => exact HC0_0.out); (case side3 => repeat (first | exact (Kd.C_below HR0_1.out HB.out) | (with_reducible refine ca' ?_ _) | (with_reducible refine cn' ?_ _) | (with_reducible refine cd' ?_))); (case side4 => exact HC0_1.out); rintro e w14 ⟨v347, v350, rfl, ho0, ho1, hb⟩; refine ⟨_, rfl, ?_⟩; obtain ⟨D373_, hdl_, hdg_⟩ := dlt_of hb; have D373_lt := am' hdl_; have D373_ge := am' hdg_; clear hdl_ hdg_; have n0_ := am' (Kd.R_lower (Kd.R_dge ho0 D373_ge.out) (below_size (by repeat (first | (with_reducible first | exact HB.out | apply ba' | apply bd' | apply be' | refine bs' ?_ GE344.out) | exact HB.out)))); have n1_ := am' (Kd.R_lower (Kd.R_dge ho1 D373_ge.out) (below_size (by repeat (first | (with_reducible first | exact HB.out | apply ba' | apply bd' | apply be' | refine bs' ?_ GE344.out) | exact HB.out)))); have n2_ := am' (blk_below (g := gb344) (o := .cells #[.slice A0_0 l0_0.length c0_0, .slice A0_1 l0_1.length c0_1, .int .i64 a0_2] 25 (0, 0)) (by (with_reducible repeat (first | refine kn' ?_ _ | refine kd' ?_ | refine ka' ?_ _)); exact BK344.out) hb); have n3_ := am' (below_step (by repeat (first | (with_reducible first | exact HB.out | apply ba' | apply bd' | apply be' | refine bs' ?_ GE344.out) | exact HB.out)) hb); clear BK344; clear HB; have HO348 := n0_; have HO351 := n1_; have BK344 := n2_; have HB := n3_; clear n0_ n1_ n2_ n3_; (try clear hb); (try clear hb2); (try clear hk); (try clear hi); (try clear ho0); (try clear ho1); obtain ⟨Ao15, co15, eo15⟩ := Kd.R_slice HO348.out; subst eo15; obtain ⟨Ao16, co16, eo16⟩ := Kd.R_slice HO351.out; subst eo16) | ((with_reducible refine gate_callee (f := 44) rfl ?_); refine goesL_ (some 17) rfl rfl Try.func44 (by kernel_rfl) rfl #[.agg #[.slice Ao15 t346.length co15, .slice Ao16 t349.length co16, .int .i64 t352]] rfl (by (try simp only [List.map_toArray, List.map_cons, List.map_nil]); first | done | rfl | (simp only [List.length_drop, List.length_take]; rfl)) ?_; (with_reducible refine (spec_FewestOfCrew.calls kj2 _ _ t346 _ _ t349 t352 t353 t354 _ ?side1 ?side2 ?side3 ?side4 A9.out).mono ?_); (case side1 => repeat (first | exact (Kd.R_reads' HO348.out).2.2 | (with_reducible refine ca' ?_ _) | (with_reducible refine cn' ?_ _) | (with_reducible refine cd' ?_))); (case side2 => exact (Kd.R_reads' HO348.out).2.1); (case side3 => repeat (first | exact (Kd.R_reads' HO351.out).2.2 | (with_reducible refine ca' ?_ _) | (with_reducible refine cn' ?_ _) | (with_reducible refine cd' ?_))); (case side4 => exact (Kd.R_reads' HO351.out).2.1); rintro e w17 ⟨rfl, hb⟩; refine ⟨_, rfl, ?_⟩; have n0_ := am' (Kd.R_below (by (with_reducible repeat (first | apply ra' | apply rn' | apply rw')); exact HO348.out) hb); have n1_ := am' (Kd.R_below (by (with_reducible repeat (first | apply ra' | apply rn' | apply rw')); exact HO351.out) hb); have n2_ := am' (blk_below (g := gb344) (o := .cells #[.slice A0_0 l0_0.length c0_0, .slice A0_1 l0_1.length c0_1, .int .i64 a0_2] 25 (0, 0)) (by (with_reducible repeat (first | refine kn' ?_ _ | refine kd' ?_ | refine ka' ?_ _)); exact BK344.out) hb); have n3_ := am' (below_step (by repeat (first | (with_reducible first | exact HB.out | apply ba' | apply bd' | apply be' | refine bs' ?_ GE344.out) | exact HB.out)) hb); clear HO348; clear HO351; clear BK344; clear HB; have HO348 := n0_; have HO351 := n1_; have BK344 := n2_; have HB := n3_; clear n0_ n1_ n2_ n3_; (try clear hb); (try clear hb2); (try clear hk); (try clear hi); have hcz18_0 : w17.cell? ⟨gb344, 0, none⟩ = some (.slice A0_0 l0_0.length c0_0) := (blk_cell BK344.out 0).trans rfl; have hcz18_1 : w17.cell? ⟨gb344, 1, none⟩ = some (.slice A0_1 l0_1.length c0_1) := (blk_cell BK344.out 1).trans rfl; have hcz18_2 : w17.cell? ⟨gb344, 2, none⟩ = some (.int .i64 a0_2) := (blk_cell BK344.out 2).trans rfl; have hfz18_0 := blk_frozen BK344.out 0; have hfz18_1 := blk_frozen BK344.out 1; have hfz18_2 := blk_frozen BK344.out 2) | ((with_reducible refine gate_callee (f := 14) rfl ?_); refine goesL_ (some 21) rfl rfl Try.func14 (by kernel_rfl) rfl #[.agg #[.slice A0_0 l0_0.length c0_0, .slice A0_1 l0_1.length c0_1, .int .i64 a0_2]] rfl (by (try simp only [List.map_toArray, List.map_cons, List.map_nil]); first | done | rfl | (simp only [List.length_drop, List.length_take]; rfl)) ?_; (with_reducible refine (laws_toCrew.calls kj2 _ _ l0_0 _ _ l0_1 a0_2 t355 t358 t361 _ ?side1 ?side2 ?side3 ?side4 A10.out).mono ?_); (case side1 => repeat (first | exact (Kd.C_below HR0_0.out HB.out) | (with_reducible refine ca' ?_ _) | (with_reducible refine cn' ?_ _) | (with_reducible refine cd' ?_))); (case side2 => exact HC0_0.out); (case side3 => repeat (first | exact (Kd.C_below HR0_1.out HB.out) | (with_reducible refine ca' ?_ _) | (with_reducible refine cn' ?_ _) | (with_reducible refine cd' ?_))); (case side4 => exact HC0_1.out); rintro e w19 ⟨v356, v359, rfl, ho0, ho1, hb⟩; refine ⟨_, rfl, ?_⟩; obtain ⟨D374_, hdl_, hdg_⟩ := dlt_of hb; have D374_lt := am' hdl_; have D374_ge := am' hdg_; clear hdl_ hdg_; have n0_ := am' (Kd.R_elder' (Kd.R_dlt (by (with_reducible repeat (first | apply ra' | apply rn' | apply rw')); exact HO348.out) D374_lt.out) (Kd.R_base ho0) hb); have n1_ := am' (Kd.R_elder' (Kd.R_dlt (by (with_reducible repeat (first | apply ra' | apply rn' | apply rw')); exact HO351.out) D374_lt.out) (Kd.R_base ho1) hb); have n2_ := am' (Kd.R_lower (Kd.R_new' (Kd.R_dge ho0 D374_ge.out) (Kd.R_lt (by (with_reducible repeat (first | apply ra' | apply rn' | apply rw')); exact HO348.out))) (below_size (by repeat (first | (with_reducible first | exact HB.out | apply ba' | apply bd' | apply be' | refine bs' ?_ GE344.out) | exact HB.out)))); have n3_ := am' (Kd.R_lower (Kd.R_new' (Kd.R_dge ho1 D374_ge.out) (Kd.R_lt (by (with_reducible repeat (first | apply ra' | apply rn' | apply rw')); exact HO351.out))) (below_size (by repeat (first | (with_reducible first | exact HB.out | apply ba' | apply bd' | apply be' | refine bs' ?_ GE344.out) | exact HB.out)))); have n4_ := am' (blk_below (g := gb344) (o := .cells #[.slice A0_0 l0_0.length c0_0, .slice A0_1 l0_1.length c0_1, .int .i64 a0_2] 25 (0, 0)) (by (with_reducible repeat (first | refine kn' ?_ _ | refine kd' ?_ | refine ka' ?_ _)); exact BK344.out) hb); have n5_ := am' (below_step (by repeat (first | (with_reducible first | exact HB.out | apply ba' | apply bd' | apply be' | refine bs' ?_ GE344.out) | exact HB.out)) hb); clear HO348; clear HO351; clear BK344; clear HB; have HO348 := n0_; have HO351 := n1_; have HO357 := n2_; have HO360 := n3_; have BK344 := n4_; have HB := n5_; clear n0_ n1_ n2_ n3_ n4_ n5_; (try clear hb); (try clear hb2); (try clear hk); (try clear hi); (try clear ho0); (try clear ho1)) | ((with_reducible refine gate_dst (N := 6) rfl ?_); refine box_event ?hg (N := 6) ?hd (cs := #[.slice none 0 0, .slice none 0 0, .int .i64 0]) (t := 29) ?hr ?_; (case hd => rfl); (case hg => rfl); (case hr => first | (go_simp; done) | (go_simp; rfl)); intro gb362 hg w20 hbox hb; have n0_ := am' (Kd.R_below (by (with_reducible repeat (first | apply ra' | apply rn' | apply rw')); exact HO348.out) hb); have n1_ := am' (Kd.R_below (by (with_reducible repeat (first | apply ra' | apply rn' | apply rw')); exact HO351.out) hb); have n2_ := am' (Kd.R_below (by (with_reducible repeat (first | apply ra' | apply rn' | apply rw')); exact HO357.out) hb); have n3_ := am' (Kd.R_below (by (with_reducible repeat (first | apply ra' | apply rn' | apply rw')); exact HO360.out) hb); have n4_ := am' (blk_below (g := gb344) (o := .cells #[.slice A0_0 l0_0.length c0_0, .slice A0_1 l0_1.length c0_1, .int .i64 a0_2] 25 (0, 0)) (by (with_reducible repeat (first | refine kn' ?_ _ | refine kd' ?_ | refine ka' ?_ _)); exact BK344.out) hb); have n5_ := am' (below_step (by repeat (first | (with_reducible first | exact HB.out | apply ba' | apply bd' | apply be' | refine bs' ?_ GE344.out) | exact HB.out)) hb); have n6_ := am' (hbox); have n7_ := am' ((by rw [hg]; exact (below_size (by repeat (first | (with_reducible first | exact HB.out | apply ba' | apply bd' | apply be' | refine bs' ?_ GE344.out) | exact HB.out))) : w.heap.size ≤ gb362)); have n8_ := am' ((by rw [hg]; exact (below_size (by repeat (first | (with_reducible first | exact HB.out | apply ba' | apply bd' | apply be' | refine bs' ?_ GE344.out) | exact HB.out))) : w.heap.size ≤ gb362)); have n9_ := am' ((by rw [hg]; exact Nat.ne_of_lt (blk_lt (g := gb344) (o := .cells #[.slice A0_0 l0_0.length c0_0, .slice A0_1 l0_1.length c0_1, .int .i64 a0_2] 25 (0, 0)) (by (with_reducible repeat (first | refine kn' ?_ _ | refine kd' ?_ | refine ka' ?_ _)); exact BK344.out)) : gb344 ≠ gb362)); have n10_ := am' ((by rw [hg]; exact Nat.ne_of_gt (blk_lt (g := gb344) (o := .cells #[.slice A0_0 l0_0.length c0_0, .slice A0_1 l0_1.length c0_1, .int .i64 a0_2] 25 (0, 0)) (by (with_reducible repeat (first | refine kn' ?_ _ | refine kd' ?_ | refine ka' ?_ _)); exact BK344.out)) : gb362 ≠ gb344)); clear HO348; clear HO351; clear HO357; clear HO360; clear BK344; clear HB; have HO348 := n0_; have HO351 := n1_; have HO357 := n2_; have HO360 := n3_; have BK344 := n4_; have HB := n5_; have BK362 := n6_; have GW362 := n7_; have GE362 := n8_; have NB344_362 := n9_; have NB362_344 := n10_; clear n0_ n1_ n2_ n3_ n4_ n5_ n6_ n7_ n8_ n9_ n10_; clear hb hbox hg; obtain ⟨Ao21, co21, eo21⟩ := Kd.R_slice HO357.out; subst eo21; have hnb22 := NB362_344.out; have hnc22 := NB344_362.out; have hcz23_0 : w20.cell? ⟨gb362, 0, none⟩ = some (.slice none 0 0) := (blk_cell BK362.out 0).trans rfl; have hcz23_1 : w20.cell? ⟨gb362, 1, none⟩ = some (.slice none 0 0) := (blk_cell BK362.out 1).trans rfl; have hcz23_2 : w20.cell? ⟨gb362, 2, none⟩ = some (.int .i64 0) := (blk_cell BK362.out 2).trans rfl; have hfz23_0 := blk_frozen BK362.out 0; have hfz23_1 := blk_frozen BK362.out 1; have hfz23_2 := blk_frozen BK362.out 2; obtain ⟨Ao24, co24, eo24⟩ := Kd.R_slice HO360.out; subst eo24) | ((with_reducible refine gate_callee (f := 45) rfl ?_); refine goesL_ (some 24) rfl rfl Try.func45 (by kernel_rfl) rfl #[.agg #[.slice Ao21 t355.length co21, .slice Ao24 t358.length co24, .int .i64 t361]] rfl (by (try simp only [List.map_toArray, List.map_cons, List.map_nil]); first | done | rfl | (simp only [List.length_drop, List.length_take]; rfl)) ?_; (with_reducible refine (impl_FewestOfCrew.calls kj2 _ _ t355 _ _ t358 t361 t363 t364 _ ?side1 ?side2 ?side3 ?side4 A11.out).mono ?_); (case side1 => refine (Kd.R_reads' (e := 3) (base := w.heap.size) (ok := fun k_ => ((True ∧ ¬ D374_ k_) ∧ some k_ ≠ (.slice Ao15 t346.length co15 : Value).ownBlock)) (n := t355.length) (c := co21) ?_).2.2; exact (by (with_reducible repeat (first | apply ra' | apply rn' | apply rw')); exact (Kd.R_mono (Kd.R_far (p := ⟨gb362, 2, none⟩) (Kd.R_far (p := ⟨gb362, 1, none⟩) (Kd.R_far (p := ⟨gb362, 0, none⟩) (Kd.R_types HO357.out BK362.out (by decide)) (fun _ hk => hk.2) (.slice Ao21 t355.length co21)) (fun _ hk => hk.2) (.slice Ao24 t358.length co24)) (fun _ hk => hk.2) (.int .i64 t361)) (fun _ h_ => h_.1)))); (case side2 => exact (Kd.R_reads' HO357.out).2.1); (case side3 => refine (Kd.R_reads' (e := 4) (base := w.heap.size) (ok := fun k_ => ((True ∧ ¬ D374_ k_) ∧ some k_ ≠ (.slice Ao16 t349.length co16 : Value).ownBlock)) (n := t358.length) (c := co24) ?_).2.2; exact (by (with_reducible repeat (first | apply ra' | apply rn' | apply rw')); exact (Kd.R_mono (Kd.R_far (p := ⟨gb362, 2, none⟩) (Kd.R_far (p := ⟨gb362, 1, none⟩) (Kd.R_far (p := ⟨gb362, 0, none⟩) (Kd.R_types HO360.out BK362.out (by decide)) (fun _ hk => hk.2) (.slice Ao21 t355.length co21)) (fun _ hk => hk.2) (.slice Ao24 t358.length co24)) (fun _ hk => hk.2) (.int .i64 t361)) (fun _ h_ => h_.1)))); (case side4 => exact (Kd.R_reads' HO360.out).2.1); rintro e w25 ⟨rfl, hb⟩; refine ⟨_, rfl, ?_⟩; have n0_ := am' (Kd.R_below (by (with_reducible repeat (first | apply ra' | apply rn' | apply rw')); exact (Kd.R_mono (Kd.R_far (p := ⟨gb362, 2, none⟩) (Kd.R_far (p := ⟨gb362, 1, none⟩) (Kd.R_far (p := ⟨gb362, 0, none⟩) (Kd.R_types HO348.out BK362.out (by decide)) (fun _ hk => hk.2) (.slice Ao21 t355.length co21)) (fun _ hk => hk.2) (.slice Ao24 t358.length co24)) (fun _ hk => hk.2) (.int .i64 t361)) (fun _ h_ => h_.1))) hb); have n1_ := am' (Kd.R_below (by (with_reducible repeat (first | apply ra' | apply rn' | apply rw')); exact (Kd.R_mono (Kd.R_far (p := ⟨gb362, 2, none⟩) (Kd.R_far (p := ⟨gb362, 1, none⟩) (Kd.R_far (p := ⟨gb362, 0, none⟩) (Kd.R_types HO351.out BK362.out (by decide)) (fun _ hk => hk.2) (.slice Ao21 t355.length co21)) (fun _ hk => hk.2) (.slice Ao24 t358.length co24)) (fun _ hk => hk.2) (.int .i64 t361)) (fun _ h_ => h_.1))) hb); have n2_ := am' (Kd.R_below (by (with_reducible repeat (first | apply ra' | apply rn' | apply rw')); exact (Kd.R_mono (Kd.R_far (p := ⟨gb362, 2, none⟩) (Kd.R_far (p := ⟨gb362, 1, none⟩) (Kd.R_far (p := ⟨gb362, 0, none⟩) (Kd.R_types HO357.out BK362.out (by decide)) (fun _ hk => hk.2) (.slice Ao21 t355.length co21)) (fun _ hk => hk.2) (.slice Ao24 t358.length co24)) (fun _ hk => hk.2) (.int .i64 t361)) (fun _ h_ => h_.1))) hb); have n3_ := am' (Kd.R_below (by (with_reducible repeat (first | apply ra' | apply rn' | apply rw')); exact (Kd.R_mono (Kd.R_far (p := ⟨gb362, 2, none⟩) (Kd.R_far (p := ⟨gb362, 1, none⟩) (Kd.R_far (p := ⟨gb362, 0, none⟩) (Kd.R_types HO360.out BK362.out (by decide)) (fun _ hk => hk.2) (.slice Ao21 t355.length co21)) (fun _ hk => hk.2) (.slice Ao24 t358.length co24)) (fun _ hk => hk.2) (.int .i64 t361)) (fun _ h_ => h_.1))) hb); have n4_ := am' (blk_below (g := gb344) (o := .cells #[.slice A0_0 l0_0.length c0_0, .slice A0_1 l0_1.length c0_1, .int .i64 a0_2] 25 (0, 0)) (by (with_reducible repeat (first | refine kn' ?_ _ | refine kd' ?_ | refine ka' ?_ _)); refine blk_far ?_ NB344_362.out _; (with_reducible repeat (first | refine kn' ?_ _ | refine kd' ?_ | refine ka' ?_ _)); refine blk_far ?_ NB344_362.out _; (with_reducible repeat (first | refine kn' ?_ _ | refine kd' ?_ | refine ka' ?_ _)); refine blk_far ?_ NB344_362.out _; (with_reducible repeat (first | refine kn' ?_ _ | refine kd' ?_ | refine ka' ?_ _)); exact BK344.out) hb); have n5_ := am' (blk_below (g := gb362) (o := .cells #[.slice Ao21 t355.length co21, .slice Ao24 t358.length co24, .int .i64 t361] 29 (0, 0)) (by (with_reducible repeat (first | refine kn' ?_ _ | refine kd' ?_ | refine ka' ?_ _)); refine blk_put (cs := #[.slice Ao21 t355.length co21, .slice Ao24 t358.length co24, .int .i64 0]) ?_ 2 _ rfl; (with_reducible repeat (first | refine kn' ?_ _ | refine kd' ?_ | refine ka' ?_ _)); refine blk_put (cs := #[.slice Ao21 t355.length co21, .slice none 0 0, .int .i64 0]) ?_ 1 _ rfl; (with_reducible repeat (first | refine kn' ?_ _ | refine kd' ?_ | refine ka' ?_ _)); refine blk_put (cs := #[.slice none 0 0, .slice none 0 0, .int .i64 0]) ?_ 0 _ rfl; (with_reducible repeat (first | refine kn' ?_ _ | refine kd' ?_ | refine ka' ?_ _)); exact BK362.out) hb); have n6_ := am' (below_step (by repeat (first | (with_reducible first | exact HB.out | apply ba' | apply bd' | apply be' | refine bs' ?_ GE344.out | refine bs' ?_ GE362.out) | exact HB.out)) hb); clear HO348; clear HO351; clear HO357; clear HO360; clear BK344; clear BK362; clear HB; have HO348 := n0_; have HO351 := n1_; have HO357 := n2_; have HO360 := n3_; have BK344 := n4_; have BK362 := n5_; have HB := n6_; clear n0_ n1_ n2_ n3_ n4_ n5_ n6_; (try clear hb); (try clear hb2); (try clear hk); (try clear hi)))
   (try simp only [Act.put, sa', sb', sc'])
   go_cut [34] (fun v34 wc => ∃ (kq : Nat) (x34_11 : Bool), v34 = .bool x34_11 ∧ Aside0 (laws_FnExactFewestOfCrew.j1 kq x34_11 l0_0 l0_1 a0_2 t355 t358 t361 = some r) ∧ Aside0 (kq ≤ kj2) ∧ Aside0 (Kd.R (Kd.int .i64) 3 wc w.heap.size (fun k_ => ¬ D374_ k_) (.slice Ao21 t355.length co21) t355) ∧ Aside0 (Kd.R Kd.bool 4 wc w.heap.size (fun k_ => ¬ D374_ k_) (.slice Ao24 t358.length co24) t358) ∧ Aside0 (wc.heap[gb344]? = some (.cells #[(.slice A0_0 l0_0.length c0_0), (.slice A0_1 l0_1.length c0_1), .int .i64 a0_2] 25 (0, 0))) ∧ Aside0 (wc.heap[gb362]? = some (.cells #[(.slice Ao21 t355.length co21), (.slice Ao24 t358.length co24), .int .i64 t361] 29 (0, 0))) ∧ Aside0 (Below w.heap.size w wc))
   case first =>
    have H := HC12.out
    clear HC12; by_cases c26 : t363 = t353
    ·
     rw [if_pos c26] at H; have c26b0 : (t363 == t353) = true := beq_iff_eq.mpr c26
     have c26b1 : (t363 != t353) = false := bne_eq_false_iff_eq.mpr c26
     clear c26; (first | rw [c26b0] | (simp only [i64_w, i32_w]; rw [c26b0]) | skip)
     have H' := am' H
     clear H; go_wp2
     go_meet
     case rel => exact ⟨_, ((t364 != t354)), (by first | rfl | (simp; done) | (simp [*]; done)), H', ⟨by have := HJ2.out; first | omega | exact Nat.le_refl _⟩, ⟨by (with_reducible repeat (first | apply ra' | apply rn' | apply rw')); exact Kd.R_mono HO357.out (fun _ hk => hk.1.2)⟩, ⟨by (with_reducible repeat (first | apply ra' | apply rn' | apply rw')); exact Kd.R_mono HO360.out (fun _ hk => hk.1.2)⟩, ⟨by (with_reducible repeat (first | refine kn' ?_ _ | refine kd' ?_ | refine ka' ?_ _)); exact BK344.out⟩, ⟨by (with_reducible repeat (first | refine kn' ?_ _ | refine kd' ?_ | refine ka' ?_ _)); exact BK362.out⟩, ⟨by repeat (first | (with_reducible first | exact HB.out | apply ba' | apply bd' | apply be' | refine bs' ?_ GE344.out | refine bs' ?_ GE362.out) | exact HB.out)⟩⟩
    ·
     rw [if_neg c26] at H; have c26b0 : (t363 == t353) = false := beq_eq_false_iff_ne.mpr c26
     have c26b1 : (t363 != t353) = true := bne_iff_ne.mpr c26
     (first | rw [c26b0] | (simp only [i64_w, i32_w]; rw [c26b0]) | skip)
     have H' := am' H
     clear H; go_wp2
     go_meet
     case rel => exact ⟨_, (true), (by first | rfl | (simp; done) | (simp [*]; done)), H', ⟨by have := HJ2.out; first | omega | exact Nat.le_refl _⟩, ⟨by (with_reducible repeat (first | apply ra' | apply rn' | apply rw')); exact Kd.R_mono HO357.out (fun _ hk => hk.1.2)⟩, ⟨by (with_reducible repeat (first | apply ra' | apply rn' | apply rw')); exact Kd.R_mono HO360.out (fun _ hk => hk.1.2)⟩, ⟨by (with_reducible repeat (first | refine kn' ?_ _ | refine kd' ?_ | refine ka' ?_ _)); exact BK344.out⟩, ⟨by (with_reducible repeat (first | refine kn' ?_ _ | refine kd' ?_ | refine ka' ?_ _)); exact BK362.out⟩, ⟨by repeat (first | (with_reducible first | exact HB.out | apply ba' | apply bd' | apply be' | refine bs' ?_ GE344.out | refine bs' ?_ GE362.out) | exact HB.out)⟩⟩
   case rest =>
    clear HC12; try clear c1
    try clear c2
    try clear p2
    try clear c4
    try clear c7
    try clear c7b0
    try clear c10
    try clear c12
    try clear c14
    try clear c22
    try clear c26
    try clear c26b0
    try clear c26b1
    try clear hcz13_0
    try clear hcz13_1
    try clear hcz13_2
    try clear hcz18_0
    try clear hcz18_1
    try clear hcz18_2
    try clear hcz23_0
    try clear hcz23_1
    try clear hcz23_2
    try clear hcz5_0
    try clear hcz5_1
    try clear hcz5_2
    try clear hfz13_0
    try clear hfz13_1
    try clear hfz13_2
    try clear hfz18_0
    try clear hfz18_1
    try clear hfz18_2
    try clear hfz23_0
    try clear hfz23_1
    try clear hfz23_2
    try clear hfz5_0
    try clear hfz5_1
    try clear hfz5_2
    try clear p2
    obtain ⟨kq, x34_11, rfl, HA, HJ11, HO_363000, HO_363001, BK344, BK362, HB⟩ := hcut
    cases kq with
    | zero => exact absurd HA.out (by simp [laws_FnExactFewestOfCrew.j1])
    | succ kj11 =>
     have H := HA.out
     clear HA; simp only [laws_FnExactFewestOfCrew.j1] at H
     have HC27 := am' H
     clear H; go_upto_if 34 with (fail)
     go_cut [] (fun wc => ∃ (kq : Nat), Aside0 (laws_FnExactFewestOfCrew.j2 kq l0_0 l0_1 a0_2 t355 t358 t361 = some r) ∧ Aside0 (kq ≤ kj11) ∧ Aside0 (Kd.R (Kd.int .i64) 3 wc w.heap.size (fun k_ => ¬ D374_ k_) (.slice Ao21 t355.length co21) t355) ∧ Aside0 (Kd.R Kd.bool 4 wc w.heap.size (fun k_ => ¬ D374_ k_) (.slice Ao24 t358.length co24) t358) ∧ Aside0 (wc.heap[gb344]? = some (.cells #[(.slice A0_0 l0_0.length c0_0), (.slice A0_1 l0_1.length c0_1), .int .i64 a0_2] 25 (0, 0))) ∧ Aside0 (wc.heap[gb362]? = some (.cells #[(.slice Ao21 t355.length co21), (.slice Ao24 t358.length co24), .int .i64 t361] 29 (0, 0))) ∧ Aside0 (Below w.heap.size w wc))
     case first =>
      have H := HC27.out
      clear HC27; by_cases c28 : x34_11 = true
      ·
       subst c28; have H1 : (some false) = some r := by rw [if_pos rfl] at H; exact H
       clear H; have H := H1; clear H1; obtain rfl := Option.some.inj H
       go_wp2
       go_ret
       exact ⟨by first | rfl | (simp [errW_none, errW_some] <;> rfl) | (simp [*, errW_none, errW_some] <;> rfl), by repeat (first | (with_reducible first | exact HB.out | apply ba' | apply bd' | apply be' | refine bs' ?_ GE344.out | refine bs' ?_ GE362.out) | exact HB.out)⟩
      ·
       replace c28 := Bool.eq_false_iff.mpr c28
       subst c28; have H1 : (laws_FnExactFewestOfCrew.j2 kj11 l0_0 l0_1 a0_2 t355 t358 t361) = some r := by rw [if_neg (show ¬ (false = true) by decide)] at H; exact H
       clear H; have H := H1; clear H1; have H' := am' H
       clear H; go_wp2
       go_meet
       case rel => exact ⟨_, H', ⟨by have := HJ2.out; have := HJ11.out; first | omega | exact Nat.le_refl _⟩, ⟨by (with_reducible repeat (first | apply ra' | apply rn' | apply rw')); exact HO_363000.out⟩, ⟨by (with_reducible repeat (first | apply ra' | apply rn' | apply rw')); exact HO_363001.out⟩, ⟨by (with_reducible repeat (first | refine kn' ?_ _ | refine kd' ?_ | refine ka' ?_ _)); exact BK344.out⟩, ⟨by (with_reducible repeat (first | refine kn' ?_ _ | refine kd' ?_ | refine ka' ?_ _)); exact BK362.out⟩, ⟨by repeat (first | (with_reducible first | exact HB.out | apply ba' | apply bd' | apply be' | refine bs' ?_ GE344.out | refine bs' ?_ GE362.out) | exact HB.out)⟩⟩
     case rest =>
      clear HC27; try clear c1
      try clear c2
      try clear p2
      try clear c4
      try clear c7
      try clear c7b0
      try clear c10
      try clear c12
      try clear c14
      try clear c22
      try clear c26
      try clear c26b0
      try clear c26b1
      try clear c28
      try clear hcz13_0
      try clear hcz13_1
      try clear hcz13_2
      try clear hcz18_0
      try clear hcz18_1
      try clear hcz18_2
      try clear hcz23_0
      try clear hcz23_1
      try clear hcz23_2
      try clear hcz5_0
      try clear hcz5_1
      try clear hcz5_2
      try clear hfz13_0
      try clear hfz13_1
      try clear hfz13_2
      try clear hfz18_0
      try clear hfz18_1
      try clear hfz18_2
      try clear hfz23_0
      try clear hfz23_1
      try clear hfz23_2
      try clear hfz5_0
      try clear hfz5_1
      try clear hfz5_2
      try clear p2
      obtain ⟨kq, HA, HJ26, HO_363000, HO_363001, BK344, BK362, HB⟩ := hcut
      cases kq with
      | zero => exact absurd HA.out (by simp [laws_FnExactFewestOfCrew.j2])
      | succ kj26 =>
       have H := HA.out
       clear HA; simp only [laws_FnExactFewestOfCrew.j2] at H
       replace H := Option.bind_eq_some_iff.mp H
       obtain ⟨⟨t365, t368, t371⟩, A290, H⟩ := H
       replace H : ((laws_eqCrew.f kj26 t355 t358 t361 t365 t368 t371).bind fun t372 => (if t372 = true then (some true) else (some false))) = some r := H
       have A29 := am' A290
       clear A290; replace H := Option.bind_eq_some_iff.mp H
       obtain ⟨t372, A300, H⟩ := H
       replace H : (if t372 = true then (some true) else (some false)) = some r := H
       have A30 := am' A300
       clear A300; by_cases c31 : t372 = true
       ·
        subst c31; have H1 : (some true) = some r := by rw [if_pos rfl] at H; exact H
        clear H; have H := H1; clear H1; obtain rfl := Option.some.inj H
        try go_wp2
        have n0_ := am' (rw' HO_363000.out)
        have n1_ := am' (rw' HO_363001.out)
        have n2_ := am' (kd' BK344.out)
        have n3_ := am' (kd' BK362.out)
        have n4_ := am' (be' HB.out)
        clear HO_363000; clear HO_363001; clear BK344; clear BK362; clear HB; have HO_363000 := n0_; have HO_363001 := n1_; have BK344 := n2_; have BK362 := n3_; have HB := n4_; clear n0_ n1_ n2_ n3_ n4_; refine start_ (n := 5) (S := fun w' => w'.cell? ⟨gb362, 0, none⟩ = some (.slice Ao21 t355.length co21) ∧ w'.cell? ⟨gb362, 1, none⟩ = some (.slice Ao24 t358.length co24) ∧ w'.cell? ⟨gb362, 2, none⟩ = some (.int .i64 t361) ∧ w'.cell? ⟨gb344, 0, none⟩ = some (.slice A0_0 l0_0.length c0_0) ∧ w'.cell? ⟨gb344, 1, none⟩ = some (.slice A0_1 l0_1.length c0_1) ∧ w'.cell? ⟨gb344, 2, none⟩ = some (.int .i64 a0_2)) (ds := []) #[false, false, false, false, false] (by kernel_rfl) rfl rfl ⟨(blk_cell BK362.out 0).trans rfl, (blk_cell BK362.out 1).trans rfl, (blk_cell BK362.out 2).trans rfl, (blk_cell BK344.out 0).trans rfl, (blk_cell BK344.out 1).trans rfl, (blk_cell BK344.out 2).trans rfl⟩ (fun hHeld => ?_)
        generalize wc.drew = w32 at HO_363000 HO_363001 BK344 BK362 HB hHeld ⊢
        refine take_ (i := 0) (N := some 35) (v := ?_) (a' := ?_) #[true, false, false, false, false] rfl rfl (by kernel_rfl) (fun _ _ _ h => h) (Or.inl ⟨by rfl, ?_⟩) hHeld ?_ ?_
        rotate_left
        ·
         rintro w' ⟨s0, s1, s2, s3, s4, s5⟩
         go_simp; with_reducible rfl
        rotate_left
        ·
         simp only [Act.put, sa', sb', sc', i64_w, i32_w]
         rfl
        refine take_ (i := 1) (N := some 36) (v := ?_) (a' := ?_) #[true, true, false, false, false] rfl rfl (by kernel_rfl) (fun _ _ _ h => h) (Or.inl ⟨by rfl, ?_⟩) hHeld ?_ ?_
        rotate_left
        ·
         rintro w' ⟨s0, s1, s2, s3, s4, s5⟩
         go_simp; with_reducible rfl
        rotate_left
        ·
         simp only [Act.put, sa', sb', sc', i64_w, i32_w]
         rfl
        refine one_ (i := 2) (N := some 37) #[true, true, true, false, false] rfl rfl (by kernel_rfl) (by decide) (fun K hK => ?_)
        refine goes_ Try.func14 (by kernel_rfl) rfl #[.agg #[.slice A0_0 l0_0.length c0_0, .slice A0_1 l0_1.length c0_1, .int .i64 a0_2]] (by rfl) rfl rfl (by (try simp only [List.map_toArray, List.map_cons, List.map_nil]); first | done | rfl | (simp only [List.length_drop, List.length_take]; rfl)) ?_
        with_reducible refine (laws_toCrew.calls kj26 _ _ l0_0 _ _ l0_1 a0_2 t365 t368 t371 _ ?side1 ?side2 ?side3 ?side4 A29.out).mono ?_
        (case side1 => repeat (first | exact (Kd.C_below HR0_0.out HB.out) | (with_reducible refine ca' ?_ _) | (with_reducible refine cn' ?_ _) | (with_reducible refine cd' ?_)))
        (case side2 => exact HC0_0.out)
        (case side3 => repeat (first | exact (Kd.C_below HR0_1.out HB.out) | (with_reducible refine ca' ?_ _) | (with_reducible refine cn' ?_ _) | (with_reducible refine cd' ?_)))
        (case side4 => exact HC0_1.out)
        rintro e w33 ⟨v366, v369, rfl, ho0, ho1, hb⟩
        refine ⟨_, rfl, ?_⟩
        have n0_ := am' (Kd.R_elder' (by (with_reducible repeat (first | apply ra' | apply rn' | apply rw')); exact HO_363000.out) (Kd.R_base ho0) hb)
        have n1_ := am' (Kd.R_elder' (by (with_reducible repeat (first | apply ra' | apply rn' | apply rw')); exact HO_363001.out) (Kd.R_base ho1) hb)
        have n2_ := am' (Kd.R_lower (Kd.R_new' ho0 (Kd.R_lt (by (with_reducible repeat (first | apply ra' | apply rn' | apply rw')); exact HO_363000.out))) (below_size (by repeat (first | (with_reducible first | exact HB.out | apply ba' | apply bd' | apply be' | refine bs' ?_ GE344.out | refine bs' ?_ GE362.out) | exact HB.out))))
        have n3_ := am' (Kd.R_lower (Kd.R_new' ho1 (Kd.R_lt (by (with_reducible repeat (first | apply ra' | apply rn' | apply rw')); exact HO_363001.out))) (below_size (by repeat (first | (with_reducible first | exact HB.out | apply ba' | apply bd' | apply be' | refine bs' ?_ GE344.out | refine bs' ?_ GE362.out) | exact HB.out))))
        have n4_ := am' (blk_below (g := gb344) (o := .cells #[.slice A0_0 l0_0.length c0_0, .slice A0_1 l0_1.length c0_1, .int .i64 a0_2] 25 (0, 0)) (by (with_reducible repeat (first | refine kn' ?_ _ | refine kd' ?_ | refine ka' ?_ _)); exact BK344.out) hb)
        have n5_ := am' (blk_below (g := gb362) (o := .cells #[.slice Ao21 t355.length co21, .slice Ao24 t358.length co24, .int .i64 t361] 29 (0, 0)) (by (with_reducible repeat (first | refine kn' ?_ _ | refine kd' ?_ | refine ka' ?_ _)); exact BK362.out) hb)
        have n6_ := am' (below_step (by repeat (first | (with_reducible first | exact HB.out | apply ba' | apply bd' | apply be' | refine bs' ?_ GE344.out | refine bs' ?_ GE362.out) | exact HB.out)) hb)
        clear HO_363000; clear HO_363001; clear BK344; clear BK362; clear HB; have HO_363000 := n0_; have HO_363001 := n1_; have HO367 := n2_; have HO370 := n3_; have BK344 := n4_; have BK362 := n5_; have HB := n6_; clear n0_ n1_ n2_ n3_ n4_ n5_ n6_; (try clear hb)
        (try clear hb2)
        (try clear hk)
        (try clear hi)
        (try clear ho0)
        (try clear ho1)
        obtain ⟨Ao34, co34, eo34⟩ := Kd.R_slice HO367.out
        (first | subst eo34 | (injection eo34 with f1_ f2_ f3_; have f4_ := f1_.symm; have f5_ := f3_.symm; clear f1_ f2_ f3_; subst f4_; subst f5_))
        obtain ⟨Ao35, co35, eo35⟩ := Kd.R_slice HO370.out
        (first | subst eo35 | (injection eo35 with f1_ f2_ f3_; have f4_ := f1_.symm; have f5_ := f3_.symm; clear f1_ f2_ f3_; subst f4_; subst f5_))
        refine hK.out _ _ ⟨(blk_cell BK362.out 0).trans rfl, (blk_cell BK362.out 1).trans rfl, (blk_cell BK362.out 2).trans rfl, (blk_cell BK344.out 0).trans rfl, (blk_cell BK344.out 1).trans rfl, (blk_cell BK344.out 2).trans rfl⟩ (fun hHeld => ?_)
        clear hK K; refine norm_ (a' := ?_) ?_ ?_
        rotate_left
        ·
         show Act.put _ (some 37) _ = _
         simp only [Act.put, sa', sb', sc', i64_w, i32_w]
         rfl
        refine one_ (i := 3) (N := some 38) #[true, true, true, true, false] rfl rfl (by kernel_rfl) (by decide) (fun K hK => ?_)
        refine goes_ Try.func17 (by kernel_rfl) rfl #[.agg #[.slice Ao21 t355.length co21, .slice Ao24 t358.length co24, .int .i64 t361], .agg #[.slice Ao34 t365.length co34, .slice Ao35 t368.length co35, .int .i64 t371]] (by rfl) rfl rfl (by (try simp only [List.map_toArray, List.map_cons, List.map_nil]); first | done | rfl | (simp only [List.length_drop, List.length_take]; rfl)) ?_
        with_reducible refine (laws_eqCrew.calls kj26 _ _ t355 _ _ t358 t361 _ _ t365 _ _ t368 t371 true _ ?side1 ?side2 ?side3 ?side4 ?side5 ?side6 ?side7 ?side8 A30.out).mono ?_
        (case side1 => repeat (first | exact (Kd.R_reads' HO_363000.out).2.2 | (with_reducible refine ca' ?_ _) | (with_reducible refine cn' ?_ _) | (with_reducible refine cd' ?_)))
        (case side2 => exact (Kd.R_reads' HO_363000.out).2.1)
        (case side3 => repeat (first | exact (Kd.R_reads' HO_363001.out).2.2 | (with_reducible refine ca' ?_ _) | (with_reducible refine cn' ?_ _) | (with_reducible refine cd' ?_)))
        (case side4 => exact (Kd.R_reads' HO_363001.out).2.1)
        (case side5 => repeat (first | exact (Kd.R_reads' HO367.out).2.2 | (with_reducible refine ca' ?_ _) | (with_reducible refine cn' ?_ _) | (with_reducible refine cd' ?_)))
        (case side6 => exact (Kd.R_reads' HO367.out).2.1)
        (case side7 => repeat (first | exact (Kd.R_reads' HO370.out).2.2 | (with_reducible refine ca' ?_ _) | (with_reducible refine cn' ?_ _) | (with_reducible refine cd' ?_)))
        (case side8 => exact (Kd.R_reads' HO370.out).2.1)
        rintro e w36 ⟨rfl, hb⟩
        refine ⟨_, rfl, ?_⟩
        have n0_ := am' (Kd.R_below (by (with_reducible repeat (first | apply ra' | apply rn' | apply rw')); exact HO_363000.out) hb)
        have n1_ := am' (Kd.R_below (by (with_reducible repeat (first | apply ra' | apply rn' | apply rw')); exact HO_363001.out) hb)
        have n2_ := am' (Kd.R_below (by (with_reducible repeat (first | apply ra' | apply rn' | apply rw')); exact HO367.out) hb)
        have n3_ := am' (Kd.R_below (by (with_reducible repeat (first | apply ra' | apply rn' | apply rw')); exact HO370.out) hb)
        have n4_ := am' (blk_below (g := gb344) (o := .cells #[.slice A0_0 l0_0.length c0_0, .slice A0_1 l0_1.length c0_1, .int .i64 a0_2] 25 (0, 0)) (by (with_reducible repeat (first | refine kn' ?_ _ | refine kd' ?_ | refine ka' ?_ _)); exact BK344.out) hb)
        have n5_ := am' (blk_below (g := gb362) (o := .cells #[.slice Ao21 t355.length co21, .slice Ao24 t358.length co24, .int .i64 t361] 29 (0, 0)) (by (with_reducible repeat (first | refine kn' ?_ _ | refine kd' ?_ | refine ka' ?_ _)); exact BK362.out) hb)
        have n6_ := am' (below_step (by repeat (first | (with_reducible first | exact HB.out | apply ba' | apply bd' | apply be' | refine bs' ?_ GE344.out | refine bs' ?_ GE362.out) | exact HB.out)) hb)
        clear HO_363000; clear HO_363001; clear HO367; clear HO370; clear BK344; clear BK362; clear HB; have HO_363000 := n0_; have HO_363001 := n1_; have HO367 := n2_; have HO370 := n3_; have BK344 := n4_; have BK362 := n5_; have HB := n6_; clear n0_ n1_ n2_ n3_ n4_ n5_ n6_; (try clear hb)
        (try clear hb2)
        (try clear hk)
        (try clear hi)
        refine hK.out _ _ ⟨(blk_cell BK362.out 0).trans rfl, (blk_cell BK362.out 1).trans rfl, (blk_cell BK362.out 2).trans rfl, (blk_cell BK344.out 0).trans rfl, (blk_cell BK344.out 1).trans rfl, (blk_cell BK344.out 2).trans rfl⟩ (fun hHeld => ?_)
        clear hK K; refine norm_ (a' := ?_) ?_ ?_
        rotate_left
        ·
         show Act.put _ (some 38) _ = _
         simp only [Act.put, sa', sb', sc', i64_w, i32_w]
         rfl
        refine pure_ (i := 4) (N := some 39) (v := ?_) (a' := ?_) #[true, true, true, true, true] rfl rfl (by kernel_rfl) (fun _ _ _ h => h) (Or.inl ⟨by rfl, ?_⟩) ?_ ?_
        rotate_left
        ·
         intro w'; go_simp; with_reducible rfl
        rotate_left
        ·
         simp only [Act.put, sa', sb', sc', i64_w, i32_w]
         rfl
        refine done_ (by kernel_rfl) ?_
        try go_wp2
        go_ret
        exact ⟨by first | rfl | (simp [errW_none, errW_some] <;> rfl) | (simp [*, errW_none, errW_some] <;> rfl), by repeat (first | (with_reducible first | exact HB.out | apply ba' | apply bd' | apply be' | refine bs' ?_ GE344.out | refine bs' ?_ GE362.out) | exact HB.out)⟩
       ·
        replace c31 := Bool.eq_false_iff.mpr c31
        subst c31; have H1 : (some false) = some r := by rw [if_neg (show ¬ (false = true) by decide)] at H; exact H
        clear H; have H := H1; clear H1; obtain rfl := Option.some.inj H
        try go_wp2
        have n0_ := am' (rw' HO_363000.out)
        have n1_ := am' (rw' HO_363001.out)
        have n2_ := am' (kd' BK344.out)
        have n3_ := am' (kd' BK362.out)
        have n4_ := am' (be' HB.out)
        clear HO_363000; clear HO_363001; clear BK344; clear BK362; clear HB; have HO_363000 := n0_; have HO_363001 := n1_; have BK344 := n2_; have BK362 := n3_; have HB := n4_; clear n0_ n1_ n2_ n3_ n4_; refine start_ (n := 5) (S := fun w' => w'.cell? ⟨gb362, 0, none⟩ = some (.slice Ao21 t355.length co21) ∧ w'.cell? ⟨gb362, 1, none⟩ = some (.slice Ao24 t358.length co24) ∧ w'.cell? ⟨gb362, 2, none⟩ = some (.int .i64 t361) ∧ w'.cell? ⟨gb344, 0, none⟩ = some (.slice A0_0 l0_0.length c0_0) ∧ w'.cell? ⟨gb344, 1, none⟩ = some (.slice A0_1 l0_1.length c0_1) ∧ w'.cell? ⟨gb344, 2, none⟩ = some (.int .i64 a0_2)) (ds := []) #[false, false, false, false, false] (by kernel_rfl) rfl rfl ⟨(blk_cell BK362.out 0).trans rfl, (blk_cell BK362.out 1).trans rfl, (blk_cell BK362.out 2).trans rfl, (blk_cell BK344.out 0).trans rfl, (blk_cell BK344.out 1).trans rfl, (blk_cell BK344.out 2).trans rfl⟩ (fun hHeld => ?_)
        generalize wc.drew = w37 at HO_363000 HO_363001 BK344 BK362 HB hHeld ⊢
        refine take_ (i := 0) (N := some 35) (v := ?_) (a' := ?_) #[true, false, false, false, false] rfl rfl (by kernel_rfl) (fun _ _ _ h => h) (Or.inl ⟨by rfl, ?_⟩) hHeld ?_ ?_
        rotate_left
        ·
         rintro w' ⟨s0, s1, s2, s3, s4, s5⟩
         go_simp; with_reducible rfl
        rotate_left
        ·
         simp only [Act.put, sa', sb', sc', i64_w, i32_w]
         rfl
        refine take_ (i := 1) (N := some 36) (v := ?_) (a' := ?_) #[true, true, false, false, false] rfl rfl (by kernel_rfl) (fun _ _ _ h => h) (Or.inl ⟨by rfl, ?_⟩) hHeld ?_ ?_
        rotate_left
        ·
         rintro w' ⟨s0, s1, s2, s3, s4, s5⟩
         go_simp; with_reducible rfl
        rotate_left
        ·
         simp only [Act.put, sa', sb', sc', i64_w, i32_w]
         rfl
        refine one_ (i := 2) (N := some 37) #[true, true, true, false, false] rfl rfl (by kernel_rfl) (by decide) (fun K hK => ?_)
        refine goes_ Try.func14 (by kernel_rfl) rfl #[.agg #[.slice A0_0 l0_0.length c0_0, .slice A0_1 l0_1.length c0_1, .int .i64 a0_2]] (by rfl) rfl rfl (by (try simp only [List.map_toArray, List.map_cons, List.map_nil]); first | done | rfl | (simp only [List.length_drop, List.length_take]; rfl)) ?_
        with_reducible refine (laws_toCrew.calls kj26 _ _ l0_0 _ _ l0_1 a0_2 t365 t368 t371 _ ?side1 ?side2 ?side3 ?side4 A29.out).mono ?_
        (case side1 => repeat (first | exact (Kd.C_below HR0_0.out HB.out) | (with_reducible refine ca' ?_ _) | (with_reducible refine cn' ?_ _) | (with_reducible refine cd' ?_)))
        (case side2 => exact HC0_0.out)
        (case side3 => repeat (first | exact (Kd.C_below HR0_1.out HB.out) | (with_reducible refine ca' ?_ _) | (with_reducible refine cn' ?_ _) | (with_reducible refine cd' ?_)))
        (case side4 => exact HC0_1.out)
        rintro e w38 ⟨v366, v369, rfl, ho0, ho1, hb⟩
        refine ⟨_, rfl, ?_⟩
        have n0_ := am' (Kd.R_elder' (by (with_reducible repeat (first | apply ra' | apply rn' | apply rw')); exact HO_363000.out) (Kd.R_base ho0) hb)
        have n1_ := am' (Kd.R_elder' (by (with_reducible repeat (first | apply ra' | apply rn' | apply rw')); exact HO_363001.out) (Kd.R_base ho1) hb)
        have n2_ := am' (Kd.R_lower (Kd.R_new' ho0 (Kd.R_lt (by (with_reducible repeat (first | apply ra' | apply rn' | apply rw')); exact HO_363000.out))) (below_size (by repeat (first | (with_reducible first | exact HB.out | apply ba' | apply bd' | apply be' | refine bs' ?_ GE344.out | refine bs' ?_ GE362.out) | exact HB.out))))
        have n3_ := am' (Kd.R_lower (Kd.R_new' ho1 (Kd.R_lt (by (with_reducible repeat (first | apply ra' | apply rn' | apply rw')); exact HO_363001.out))) (below_size (by repeat (first | (with_reducible first | exact HB.out | apply ba' | apply bd' | apply be' | refine bs' ?_ GE344.out | refine bs' ?_ GE362.out) | exact HB.out))))
        have n4_ := am' (blk_below (g := gb344) (o := .cells #[.slice A0_0 l0_0.length c0_0, .slice A0_1 l0_1.length c0_1, .int .i64 a0_2] 25 (0, 0)) (by (with_reducible repeat (first | refine kn' ?_ _ | refine kd' ?_ | refine ka' ?_ _)); exact BK344.out) hb)
        have n5_ := am' (blk_below (g := gb362) (o := .cells #[.slice Ao21 t355.length co21, .slice Ao24 t358.length co24, .int .i64 t361] 29 (0, 0)) (by (with_reducible repeat (first | refine kn' ?_ _ | refine kd' ?_ | refine ka' ?_ _)); exact BK362.out) hb)
        have n6_ := am' (below_step (by repeat (first | (with_reducible first | exact HB.out | apply ba' | apply bd' | apply be' | refine bs' ?_ GE344.out | refine bs' ?_ GE362.out) | exact HB.out)) hb)
        clear HO_363000; clear HO_363001; clear BK344; clear BK362; clear HB; have HO_363000 := n0_; have HO_363001 := n1_; have HO367 := n2_; have HO370 := n3_; have BK344 := n4_; have BK362 := n5_; have HB := n6_; clear n0_ n1_ n2_ n3_ n4_ n5_ n6_; (try clear hb)
        (try clear hb2)
        (try clear hk)
        (try clear hi)
        (try clear ho0)
        (try clear ho1)
        obtain ⟨Ao39, co39, eo39⟩ := Kd.R_slice HO367.out
        (first | subst eo39 | (injection eo39 with f1_ f2_ f3_; have f4_ := f1_.symm; have f5_ := f3_.symm; clear f1_ f2_ f3_; subst f4_; subst f5_))
        obtain ⟨Ao40, co40, eo40⟩ := Kd.R_slice HO370.out
        (first | subst eo40 | (injection eo40 with f1_ f2_ f3_; have f4_ := f1_.symm; have f5_ := f3_.symm; clear f1_ f2_ f3_; subst f4_; subst f5_))
        refine hK.out _ _ ⟨(blk_cell BK362.out 0).trans rfl, (blk_cell BK362.out 1).trans rfl, (blk_cell BK362.out 2).trans rfl, (blk_cell BK344.out 0).trans rfl, (blk_cell BK344.out 1).trans rfl, (blk_cell BK344.out 2).trans rfl⟩ (fun hHeld => ?_)
        clear hK K; refine norm_ (a' := ?_) ?_ ?_
        rotate_left
        ·
         show Act.put _ (some 37) _ = _
         simp only [Act.put, sa', sb', sc', i64_w, i32_w]
         rfl
        refine one_ (i := 3) (N := some 38) #[true, true, true, true, false] rfl rfl (by kernel_rfl) (by decide) (fun K hK => ?_)
        refine goes_ Try.func17 (by kernel_rfl) rfl #[.agg #[.slice Ao21 t355.length co21, .slice Ao24 t358.length co24, .int .i64 t361], .agg #[.slice Ao39 t365.length co39, .slice Ao40 t368.length co40, .int .i64 t371]] (by rfl) rfl rfl (by (try simp only [List.map_toArray, List.map_cons, List.map_nil]); first | done | rfl | (simp only [List.length_drop, List.length_take]; rfl)) ?_
        with_reducible refine (laws_eqCrew.calls kj26 _ _ t355 _ _ t358 t361 _ _ t365 _ _ t368 t371 false _ ?side1 ?side2 ?side3 ?side4 ?side5 ?side6 ?side7 ?side8 A30.out).mono ?_
        (case side1 => repeat (first | exact (Kd.R_reads' HO_363000.out).2.2 | (with_reducible refine ca' ?_ _) | (with_reducible refine cn' ?_ _) | (with_reducible refine cd' ?_)))
        (case side2 => exact (Kd.R_reads' HO_363000.out).2.1)
        (case side3 => repeat (first | exact (Kd.R_reads' HO_363001.out).2.2 | (with_reducible refine ca' ?_ _) | (with_reducible refine cn' ?_ _) | (with_reducible refine cd' ?_)))
        (case side4 => exact (Kd.R_reads' HO_363001.out).2.1)
        (case side5 => repeat (first | exact (Kd.R_reads' HO367.out).2.2 | (with_reducible refine ca' ?_ _) | (with_reducible refine cn' ?_ _) | (with_reducible refine cd' ?_)))
        (case side6 => exact (Kd.R_reads' HO367.out).2.1)
        (case side7 => repeat (first | exact (Kd.R_reads' HO370.out).2.2 | (with_reducible refine ca' ?_ _) | (with_reducible refine cn' ?_ _) | (with_reducible refine cd' ?_)))
        (case side8 => exact (Kd.R_reads' HO370.out).2.1)
        rintro e w41 ⟨rfl, hb⟩
        refine ⟨_, rfl, ?_⟩
        have n0_ := am' (Kd.R_below (by (with_reducible repeat (first | apply ra' | apply rn' | apply rw')); exact HO_363000.out) hb)
        have n1_ := am' (Kd.R_below (by (with_reducible repeat (first | apply ra' | apply rn' | apply rw')); exact HO_363001.out) hb)
        have n2_ := am' (Kd.R_below (by (with_reducible repeat (first | apply ra' | apply rn' | apply rw')); exact HO367.out) hb)
        have n3_ := am' (Kd.R_below (by (with_reducible repeat (first | apply ra' | apply rn' | apply rw')); exact HO370.out) hb)
        have n4_ := am' (blk_below (g := gb344) (o := .cells #[.slice A0_0 l0_0.length c0_0, .slice A0_1 l0_1.length c0_1, .int .i64 a0_2] 25 (0, 0)) (by (with_reducible repeat (first | refine kn' ?_ _ | refine kd' ?_ | refine ka' ?_ _)); exact BK344.out) hb)
        have n5_ := am' (blk_below (g := gb362) (o := .cells #[.slice Ao21 t355.length co21, .slice Ao24 t358.length co24, .int .i64 t361] 29 (0, 0)) (by (with_reducible repeat (first | refine kn' ?_ _ | refine kd' ?_ | refine ka' ?_ _)); exact BK362.out) hb)
        have n6_ := am' (below_step (by repeat (first | (with_reducible first | exact HB.out | apply ba' | apply bd' | apply be' | refine bs' ?_ GE344.out | refine bs' ?_ GE362.out) | exact HB.out)) hb)
        clear HO_363000; clear HO_363001; clear HO367; clear HO370; clear BK344; clear BK362; clear HB; have HO_363000 := n0_; have HO_363001 := n1_; have HO367 := n2_; have HO370 := n3_; have BK344 := n4_; have BK362 := n5_; have HB := n6_; clear n0_ n1_ n2_ n3_ n4_ n5_ n6_; (try clear hb)
        (try clear hb2)
        (try clear hk)
        (try clear hi)
        refine hK.out _ _ ⟨(blk_cell BK362.out 0).trans rfl, (blk_cell BK362.out 1).trans rfl, (blk_cell BK362.out 2).trans rfl, (blk_cell BK344.out 0).trans rfl, (blk_cell BK344.out 1).trans rfl, (blk_cell BK344.out 2).trans rfl⟩ (fun hHeld => ?_)
        clear hK K; refine norm_ (a' := ?_) ?_ ?_
        rotate_left
        ·
         show Act.put _ (some 38) _ = _
         simp only [Act.put, sa', sb', sc', i64_w, i32_w]
         rfl
        refine pure_ (i := 4) (N := some 39) (v := ?_) (a' := ?_) #[true, true, true, true, true] rfl rfl (by kernel_rfl) (fun _ _ _ h => h) (Or.inl ⟨by rfl, ?_⟩) ?_ ?_
        rotate_left
        ·
         intro w'; go_simp; with_reducible rfl
        rotate_left
        ·
         simp only [Act.put, sa', sb', sc', i64_w, i32_w]
         rfl
        refine done_ (by kernel_rfl) ?_
        try go_wp2
        go_ret
        exact ⟨by first | rfl | (simp [errW_none, errW_some] <;> rfl) | (simp [*, errW_none, errW_some] <;> rfl), by repeat (first | (with_reducible first | exact HB.out | apply ba' | apply bd' | apply be' | refine bs' ?_ GE344.out | refine bs' ?_ GE362.out) | exact HB.out)⟩
end Go.Proofs.Ytikjdmiohpdnaaa.C14
