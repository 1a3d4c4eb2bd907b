import Derived.Test.YtikjdmiohpdnaaaC2zx0
import Derived.Test.YtikjdmiohpdnaaaC2zx1
import Derived.Test.YtikjdmiohpdnaaaC2zx2
import Derived.Test.YtikjdmiohpdnaaaC2zx5
import Derived.Test.YtikjdmiohpdnaaaC2zx6
import Derived.Test.YtikjdmiohpdnaaaC2zx8
import Derived.Test.YtikjdmiohpdnaaaC2zAl
namespace Go.Proofs.Ytikjdmiohpdnaaa.C2
open Go.RowKit Go.Proofs.YtikjdmiohpdnaaaW.PrintWords Go.Proofs.YtikjdmiohpdnaaaW.PrintLast Go.Proofs.YtikjdmiohpdnaaaW.PrintMore Go.Proofs.Ytikjdmiohpdnaaa.H
attribute [local go_sem] max2_int min2_int max_two min_two max_three min_three max_four min_four
set_option linter.unusedVariables false
set_option linter.unusedSimpArgs false
mutual
def laws_FnExactIsCrewPlan.j0 : Nat → List (List Int) → Int → List Int → List Bool → Int → Option (Bool)
 | 0, _, _, _, _, _ => none
 | k + 1, x1, x5, x271000, x271001, x271002 => (laws_szIntSS.f k x1 x5).bind fun t272 => (if t272 < 0 then (some true) else (laws_FnExactIsCrewPlan.j1 k x1 x271000 x271001 x271002))
def laws_FnExactIsCrewPlan.j1 : Nat → List (List Int) → List Int → List Bool → Int → Option (Bool)
 | 0, _, _, _, _ => none
 | k + 1, x1, x271000, x271001, x271002 => (laws_toCrew.f k x271000 x271001 x271002).bind fun bt273 => ((laws_toIntSS.f k x1).bind fun t280 => ((spec_IsCrewPlan.f k bt273.1 bt273.2.1 bt273.2.2 t280).bind fun bt283 => ((laws_toCrew.f k x271000 x271001 x271002).bind fun bt285 => ((laws_toIntSS.f k x1).bind fun t293 => ((impl_IsCrewPlan.f k bt285.1 bt285.2.1 bt285.2.2 t293).bind fun bt296 => (if (bt296.1 != bt283.1) = true then (laws_FnExactIsCrewPlan.j2 k x1 t293 true x271000 x271001 x271002 bt285.1 bt285.2.1 bt285.2.2) else (laws_FnExactIsCrewPlan.j2 k x1 t293 (bt296.2 != bt283.2) x271000 x271001 x271002 bt285.1 bt285.2.1 bt285.2.2)))))))
def laws_FnExactIsCrewPlan.j2 : Nat → List (List Int) → List (List Int) → Bool → List Int → List Bool → Int → List Int → List Bool → Int → Option (Bool)
 | 0, _, _, _, _, _, _, _, _, _ => none
 | k + 1, x1, x9, x47, x271000, x271001, x271002, x293000, x293001, x293002 => if x47 = true then (some false) else (laws_FnExactIsCrewPlan.j3 k x1 x9 x271000 x271001 x271002 x293000 x293001 x293002)
def laws_FnExactIsCrewPlan.j3 : Nat → List (List Int) → List (List Int) → List Int → List Bool → Int → List Int → List Bool → Int → Option (Bool)
 | 0, _, _, _, _, _, _, _, _ => none
 | k + 1, x1, x9, x271000, x271001, x271002, x293000, x293001, x293002 => (laws_toCrew.f k x271000 x271001 x271002).bind fun bt298 => ((laws_eqCrew.f k x293000 x293001 x293002 bt298.1 bt298.2.1 bt298.2.2).bind fun t305 => (if t305 = true then (laws_FnExactIsCrewPlan.j4 k x1 x9) else (some false)))
def laws_FnExactIsCrewPlan.j4 : Nat → List (List Int) → List (List Int) → Option (Bool)
 | 0, _, _ => none
 | k + 1, x1, x9 => (laws_toIntSS.f k x1).bind fun t306 => ((laws_eqIntSS.f k x9 t306).bind fun t309 => (if t309 = true then (some true) else (some false)))
end
def laws_FnExactIsCrewPlan.f (k : Nat) (l0_0 : List Int) (l0_1 : List Bool) (a0_2 : Int) (l1 : List (List Int)) : Option (Bool) := (laws_szCrew.f l0_0 l0_1 a0_2 1048576).bind fun t271 => (if t271 < 0 then (some true) else (laws_FnExactIsCrewPlan.j0 k l1 t271 l0_0 l0_1 a0_2))
set_option maxHeartbeats 8000000 in
set_option maxRecDepth 100000 in
theorem laws_FnExactIsCrewPlan.calls (k : Nat) (A0_0 : Option Addr) (c0_0 : Nat) (l0_0 : List Int) (A0_1 : Option Addr) (c0_1 : Nat) (l0_1 : List Bool) (a0_2 : Int) (A1 : Option Addr) (c1 : Nat) (l1 : List (List Int)) (r : Bool) (w : World) (hr0_0 : Kd.C (Kd.int .i64) w A0_0 l0_0.length l0_0) (hc0_0 : l0_0.length ≤ c0_0) (hr0_1 : Kd.C Kd.bool w A0_1 l0_1.length l0_1) (hc0_1 : l0_1.length ≤ c0_1) (hr1 : Kd.C (Kd.slice 3 (Kd.int .i64)) w A1 l1.length l1) (hc1 : l1.length ≤ c1) (h : laws_FnExactIsCrewPlan.f k l0_0 l0_1 a0_2 l1 = some r) :
  Calls Try.prog 5 #[.agg #[.slice A0_0 l0_0.length c0_0, .slice A0_1 l0_1.length c0_1, .int .i64 a0_2], .slice A1 l1.length c1] w fun e w' => e = .returned (.bool r) ∧ Below w.heap.size w w' := by
 have hu25 := Try.underlying25
 have hu29 := Try.underlying29
 have HR0_0 := am' hr0_0
 have HC0_0 := am' hc0_0
 clear hr0_0 hc0_0; have HR0_1 := am' hr0_1
 have HC0_1 := am' hc0_1
 clear hr0_1 hc0_1; have HR1 := am' hr1
 have HC1 := am' hc1
 clear hr1 hc1; have HB := am' (Below.refl w.heap.size w)
 have H : ((laws_szCrew.f l0_0 l0_1 a0_2 1048576).bind fun t271 => (if t271 < 0 then (some true) else (laws_FnExactIsCrewPlan.j0 k l1 t271 l0_0 l0_1 a0_2))) = some r := h
 clear h; replace H := Option.bind_eq_some_iff.mp H
 obtain ⟨t271, A30, H⟩ := H
 replace H : (if t271 < 0 then (some true) else (laws_FnExactIsCrewPlan.j0 k l1 t271 l0_0 l0_1 a0_2)) = some r := H
 have A3 := am' A30
 clear A30; have HC4 := am' H
 clear H; go_enter Try.func5, Try.ntmps5
 go_upto_if 16 with (first | ((with_reducible refine gate_dst (N := 2) rfl ?_); refine box_event ?hg (N := 2) ?hd (cs := #[.slice A0_0 l0_0.length c0_0, .slice A0_1 l0_1.length c0_1, .int .i64 a0_2]) (t := 25) ?hr ?_; (case hd => rfl); (case hg => rfl); (case hr => first | (go_simp; done) | (go_simp; rfl)); intro gb270 hg w5 hbox hb; have n0_ := am' (below_step (by repeat (first | (with_reducible first | exact HB.out | apply ba' | apply bd' | apply be') | exact HB.out)) hb); have n1_ := am' (hbox); have n2_ := am' ((by rw [hg]; exact (below_size (by repeat (first | (with_reducible first | exact HB.out | apply ba' | apply bd' | apply be') | exact HB.out))) : w.heap.size ≤ gb270)); have n3_ := am' ((by rw [hg]; exact (below_size (by repeat (first | (with_reducible first | exact HB.out | apply ba' | apply bd' | apply be') | exact HB.out))) : w.heap.size ≤ gb270)); clear HB; have HB := n0_; have BK270 := n1_; have GW270 := n2_; have GE270 := n3_; clear n0_ n1_ n2_ n3_; clear hb hbox hg; have hcz6_0 : w5.cell? ⟨gb270, 0, none⟩ = some (.slice A0_0 l0_0.length c0_0) := (blk_cell BK270.out 0).trans rfl; have hcz6_1 : w5.cell? ⟨gb270, 1, none⟩ = some (.slice A0_1 l0_1.length c0_1) := (blk_cell BK270.out 1).trans rfl; have hcz6_2 : w5.cell? ⟨gb270, 2, none⟩ = some (.int .i64 a0_2) := (blk_cell BK270.out 2).trans rfl; have hfz6_0 := blk_frozen BK270.out 0; have hfz6_1 := blk_frozen BK270.out 1; have hfz6_2 := blk_frozen BK270.out 2) | ((with_reducible refine gate_callee (f := 12) rfl ?_); refine goesL_ (some 14) rfl rfl Try.func12 (by kernel_rfl) rfl #[.agg #[.slice A0_0 l0_0.length c0_0, .slice A0_1 l0_1.length c0_1, .int .i64 a0_2], .int .i64 1048576] rfl (by (try simp only [List.map_toArray, List.map_cons, List.map_nil]); first | done | rfl | (simp only [List.length_drop, List.length_take]; rfl)) ?_; (with_reducible refine (laws_szCrew.calls _ _ l0_0 _ _ l0_1 a0_2 1048576 t271 _ ?side1 ?side2 ?side3 ?side4 A3.out).mono ?_); (case side1 => repeat (first | exact (Kd.C_below HR0_0.out HB.out) | (with_reducible refine ca' ?_ _) | (with_reducible refine cn' ?_ _) | (with_reducible refine cd' ?_))); (case side2 => exact HC0_0.out); (case side3 => repeat (first | exact (Kd.C_below HR0_1.out HB.out) | (with_reducible refine ca' ?_ _) | (with_reducible refine cn' ?_ _) | (with_reducible refine cd' ?_))); (case side4 => exact HC0_1.out); rintro e w7 ⟨rfl, hb⟩; refine ⟨_, rfl, ?_⟩; have n0_ := am' (blk_below (g := gb270) (o := .cells #[.slice A0_0 l0_0.length c0_0, .slice A0_1 l0_1.length c0_1, .int .i64 a0_2] 25 (0, 0)) (by (with_reducible repeat (first | refine kn' ?_ _ | refine kd' ?_ | refine ka' ?_ _)); exact BK270.out) hb); have n1_ := am' (below_step (by repeat (first | (with_reducible first | exact HB.out | apply ba' | apply bd' | apply be' | refine bs' ?_ GE270.out) | exact HB.out)) hb); clear BK270; clear HB; have BK270 := n0_; have HB := n1_; clear n0_ n1_; (try clear hb); (try clear hb2); (try clear hk); (try clear hi)))
 (try simp only [Act.put, sa', sb', sc'])
 go_cut [] (fun wc => ∃ (kq : Nat), Aside0 (laws_FnExactIsCrewPlan.j0 kq l1 t271 l0_0 l0_1 a0_2 = some r) ∧ Aside0 (kq ≤ k) ∧ Aside0 (wc.heap[gb270]? = some (.cells #[(.slice A0_0 l0_0.length c0_0), (.slice A0_1 l0_1.length c0_1), .int .i64 a0_2] 25 (0, 0))) ∧ Aside0 (Below w.heap.size w wc))
 case first =>
  have H := HC4.out
  clear HC4; by_cases c8 : t271 < 0
  ·
   rw [if_pos c8] at H; have c8b0 : decide (t271 < 0) = true := decide_eq_true c8
   clear c8; (first | rw [c8b0] | (simp only [i64_w, i32_w]; rw [c8b0]) | skip)
   obtain rfl := Option.some.inj H
   go_wp2
   go_ret
   exact ⟨by first | rfl | (simp [errW_none, errW_some] <;> rfl) | (simp [*, errW_none, errW_some] <;> rfl), by repeat (first | (with_reducible first | exact HB.out | apply ba' | apply bd' | apply be' | refine bs' ?_ GE270.out) | exact HB.out)⟩
  ·
   rw [if_neg c8] at H; have c8b0 : decide (t271 < 0) = false := decide_eq_false c8
   clear c8; (first | rw [c8b0] | (simp only [i64_w, i32_w]; rw [c8b0]) | skip)
   have H' := am' H
   clear H; go_wp2
   go_meet
   case rel => exact ⟨_, H', ⟨by first | omega | exact Nat.le_refl _⟩, ⟨by (with_reducible repeat (first | refine kn' ?_ _ | refine kd' ?_ | refine ka' ?_ _)); exact BK270.out⟩, ⟨by repeat (first | (with_reducible first | exact HB.out | apply ba' | apply bd' | apply be' | refine bs' ?_ GE270.out) | exact HB.out)⟩⟩
 case rest =>
  clear HC4; try clear c1
  try clear p2
  try clear c5
  try clear c8
  try clear c8b0
  try clear hcz6_0
  try clear hcz6_1
  try clear hcz6_2
  try clear hfz6_0
  try clear hfz6_1
  try clear hfz6_2
  obtain ⟨kq, HA, HJ3, BK270, HB⟩ := hcut
  cases kq with
  | zero => exact absurd HA.out (by simp [laws_FnExactIsCrewPlan.j0])
  | succ kj3 =>
   have H := HA.out
   clear HA; simp only [laws_FnExactIsCrewPlan.j0] at H
   replace H := Option.bind_eq_some_iff.mp H
   obtain ⟨t272, A90, H⟩ := H
   replace H : (if t272 < 0 then (some true) else (laws_FnExactIsCrewPlan.j1 kj3 l1 l0_0 l0_1 a0_2)) = some r := H
   have A9 := am' A90
   clear A90; have HC10 := am' H
   clear H; go_upto_if 21 with (first | ((with_reducible refine gate_callee (f := 28) rfl ?_); refine goesL_ (some 19) rfl rfl Try.func28 (by kernel_rfl) rfl #[.slice A1 l1.length c1, .int .i64 t271] rfl (by (try simp only [List.map_toArray, List.map_cons, List.map_nil]); first | done | rfl | (simp only [List.length_drop, List.length_take]; rfl)) ?_; (with_reducible refine (laws_szIntSS.calls kj3 _ _ l1 t271 t272 _ ?side1 ?side2 A9.out).mono ?_); (case side1 => repeat (first | exact (Kd.C_below HR1.out HB.out) | (with_reducible refine ca' ?_ _) | (with_reducible refine cn' ?_ _) | (with_reducible refine cd' ?_))); (case side2 => exact HC1.out); rintro e w' ⟨rfl, ⟨nd, rfl⟩⟩; refine ⟨_, rfl, ?_⟩))
   (try simp only [Act.put, sa', sb', sc'])
   go_cut [] (fun wc => ∃ (kq : Nat), Aside0 (laws_FnExactIsCrewPlan.j1 kq l1 l0_0 l0_1 a0_2 = some r) ∧ Aside0 (kq ≤ kj3) ∧ Aside0 (wc.heap[gb270]? = some (.cells #[(.slice A0_0 l0_0.length c0_0), (.slice A0_1 l0_1.length c0_1), .int .i64 a0_2] 25 (0, 0))) ∧ Aside0 (Below w.heap.size w wc))
   case first =>
    have H := HC10.out
    clear HC10; by_cases c11 : t272 < 0
    ·
     rw [if_pos c11] at H; have c11b0 : decide (t272 < 0) = true := decide_eq_true c11
     clear c11; (first | rw [c11b0] | (simp only [i64_w, i32_w]; rw [c11b0]) | skip)
     obtain rfl := Option.some.inj H
     go_wp2
     go_ret
     exact ⟨by first | rfl | (simp [errW_none, errW_some] <;> rfl) | (simp [*, errW_none, errW_some] <;> rfl), by repeat (first | (with_reducible first | exact HB.out | apply ba' | apply bd' | apply be' | refine bs' ?_ GE270.out) | exact HB.out)⟩
    ·
     rw [if_neg c11] at H; have c11b0 : decide (t272 < 0) = false := decide_eq_false c11
     clear c11; (first | rw [c11b0] | (simp only [i64_w, i32_w]; rw [c11b0]) | skip)
     have H' := am' H
     clear H; go_wp2
     go_meet
     case rel => exact ⟨_, H', ⟨by have := HJ3.out; first | omega | exact Nat.le_refl _⟩, ⟨by (with_reducible repeat (first | refine kn' ?_ _ | refine kd' ?_ | refine ka' ?_ _)); exact BK270.out⟩, ⟨by repeat (first | (with_reducible first | exact HB.out | apply ba' | apply bd' | apply be' | refine bs' ?_ GE270.out) | exact HB.out)⟩⟩
   case rest =>
    clear HC10; try clear c1
    try clear c2
    try clear p2
    try clear c5
    try clear c8
    try clear c8b0
    try clear c11
    try clear c11b0
    try clear hcz6_0
    try clear hcz6_1
    try clear hcz6_2
    try clear hfz6_0
    try clear hfz6_1
    try clear hfz6_2
    try clear p2
    obtain ⟨kq, HA, HJ9, BK270, HB⟩ := hcut
    cases kq with
    | zero => exact absurd HA.out (by simp [laws_FnExactIsCrewPlan.j1])
    | succ kj9 =>
     have H := HA.out
     clear HA; simp only [laws_FnExactIsCrewPlan.j1] at H
     replace H := Option.bind_eq_some_iff.mp H
     obtain ⟨⟨t273, t276, t279⟩, A120, H⟩ := H
     replace H : ((laws_toIntSS.f kj9 l1).bind fun t280 => ((spec_IsCrewPlan.f kj9 t273 t276 t279 t280).bind fun bt283 => ((laws_toCrew.f kj9 l0_0 l0_1 a0_2).bind fun bt285 => ((laws_toIntSS.f kj9 l1).bind fun t293 => ((impl_IsCrewPlan.f kj9 bt285.1 bt285.2.1 bt285.2.2 t293).bind fun bt296 => (if (bt296.1 != bt283.1) = true then (laws_FnExactIsCrewPlan.j2 kj9 l1 t293 true l0_0 l0_1 a0_2 bt285.1 bt285.2.1 bt285.2.2) else (laws_FnExactIsCrewPlan.j2 kj9 l1 t293 (bt296.2 != bt283.2) l0_0 l0_1 a0_2 bt285.1 bt285.2.1 bt285.2.2))))))) = some r := H
     have A12 := am' A120
     clear A120; replace H := Option.bind_eq_some_iff.mp H
     obtain ⟨t280, A130, H⟩ := H
     replace H : ((spec_IsCrewPlan.f kj9 t273 t276 t279 t280).bind fun bt283 => ((laws_toCrew.f kj9 l0_0 l0_1 a0_2).bind fun bt285 => ((laws_toIntSS.f kj9 l1).bind fun t293 => ((impl_IsCrewPlan.f kj9 bt285.1 bt285.2.1 bt285.2.2 t293).bind fun bt296 => (if (bt296.1 != bt283.1) = true then (laws_FnExactIsCrewPlan.j2 kj9 l1 t293 true l0_0 l0_1 a0_2 bt285.1 bt285.2.1 bt285.2.2) else (laws_FnExactIsCrewPlan.j2 kj9 l1 t293 (bt296.2 != bt283.2) l0_0 l0_1 a0_2 bt285.1 bt285.2.1 bt285.2.2)))))) = some r := H
     have A13 := am' A130
     clear A130; replace H := Option.bind_eq_some_iff.mp H
     obtain ⟨⟨t283, t284⟩, A140, H⟩ := H
     replace H : ((laws_toCrew.f kj9 l0_0 l0_1 a0_2).bind fun bt285 => ((laws_toIntSS.f kj9 l1).bind fun t293 => ((impl_IsCrewPlan.f kj9 bt285.1 bt285.2.1 bt285.2.2 t293).bind fun bt296 => (if (bt296.1 != t283) = true then (laws_FnExactIsCrewPlan.j2 kj9 l1 t293 true l0_0 l0_1 a0_2 bt285.1 bt285.2.1 bt285.2.2) else (laws_FnExactIsCrewPlan.j2 kj9 l1 t293 (bt296.2 != t284) l0_0 l0_1 a0_2 bt285.1 bt285.2.1 bt285.2.2))))) = some r := H
     have A14 := am' A140
     clear A140; replace H := Option.bind_eq_some_iff.mp H
     obtain ⟨⟨t285, t288, t291⟩, A150, H⟩ := H
     replace H : ((laws_toIntSS.f kj9 l1).bind fun t293 => ((impl_IsCrewPlan.f kj9 t285 t288 t291 t293).bind fun bt296 => (if (bt296.1 != t283) = true then (laws_FnExactIsCrewPlan.j2 kj9 l1 t293 true l0_0 l0_1 a0_2 t285 t288 t291) else (laws_FnExactIsCrewPlan.j2 kj9 l1 t293 (bt296.2 != t284) l0_0 l0_1 a0_2 t285 t288 t291)))) = some r := H
     have A15 := am' A150
     clear A150; replace H := Option.bind_eq_some_iff.mp H
     obtain ⟨t293, A160, H⟩ := H
     replace H : ((impl_IsCrewPlan.f kj9 t285 t288 t291 t293).bind fun bt296 => (if (bt296.1 != t283) = true then (laws_FnExactIsCrewPlan.j2 kj9 l1 t293 true l0_0 l0_1 a0_2 t285 t288 t291) else (laws_FnExactIsCrewPlan.j2 kj9 l1 t293 (bt296.2 != t284) l0_0 l0_1 a0_2 t285 t288 t291))) = some r := H
     have A16 := am' A160
     clear A160; replace H := Option.bind_eq_some_iff.mp H
     obtain ⟨⟨t296, t297⟩, A170, H⟩ := H
     replace H : (if (t296 != t283) = true then (laws_FnExactIsCrewPlan.j2 kj9 l1 t293 true l0_0 l0_1 a0_2 t285 t288 t291) else (laws_FnExactIsCrewPlan.j2 kj9 l1 t293 (t297 != t284) l0_0 l0_1 a0_2 t285 t288 t291)) = some r := H
     have A17 := am' A170
     clear A170; have HC18 := am' H
     clear H; have hcz19_0 : wc.cell? ⟨gb270, 0, none⟩ = some (.slice A0_0 l0_0.length c0_0) := (blk_cell BK270.out 0).trans rfl
     have hcz19_1 : wc.cell? ⟨gb270, 1, none⟩ = some (.slice A0_1 l0_1.length c0_1) := (blk_cell BK270.out 1).trans rfl
     have hcz19_2 : wc.cell? ⟨gb270, 2, none⟩ = some (.int .i64 a0_2) := (blk_cell BK270.out 2).trans rfl
     have hfz19_0 := blk_frozen BK270.out 0
     have hfz19_1 := blk_frozen BK270.out 1
     have hfz19_2 := blk_frozen BK270.out 2
     go_upto_region 12 with (first | ((with_reducible refine gate_callee (f := 14) rfl ?_); refine goesL_ (some 24) rfl rfl Try.func14 (by kernel_rfl) rfl #[.agg #[.slice A0_0 l0_0.length c0_0, .slice A0_1 l0_1.length c0_1, .int .i64 a0_2]] rfl (by (try simp only [List.map_toArray, List.map_cons, List.map_nil]); first | done | rfl | (simp only [List.length_drop, List.length_take]; rfl)) ?_; (with_reducible refine (laws_toCrew.calls kj9 _ _ l0_0 _ _ l0_1 a0_2 t273 t276 t279 _ ?side1 ?side2 ?side3 ?side4 A12.out).mono ?_); (case side1 => repeat (first | exact (Kd.C_below HR0_0.out HB.out) | (with_reducible refine ca' ?_ _) | (with_reducible refine cn' ?_ _) | (with_reducible refine cd' ?_))); (case side2 => exact HC0_0.out); (case side3 => repeat (first | exact (Kd.C_below HR0_1.out HB.out) | (with_reducible refine ca' ?_ _) | (with_reducible refine cn' ?_ _) | (with_reducible refine cd' ?_))); (case side4 => exact HC0_1.out); rintro e w20 ⟨v274, v277, rfl, ho0, ho1, hb⟩; refine ⟨_, rfl, ?_⟩; obtain ⟨D310_, hdl_, hdg_⟩ := dlt_of hb; have D310_lt := am' hdl_; have D310_ge := am' hdg_; clear hdl_ hdg_; have n0_ := am' (Kd.R_lower (Kd.R_dge ho0 D310_ge.out) (below_size (by repeat (first | (with_reducible first | exact HB.out | apply ba' | apply bd' | apply be' | refine bs' ?_ GE270.out) | exact HB.out)))); have n1_ := am' (Kd.R_lower (Kd.R_dge ho1 D310_ge.out) (below_size (by repeat (first | (with_reducible first | exact HB.out | apply ba' | apply bd' | apply be' | refine bs' ?_ GE270.out) | exact HB.out)))); have n2_ := am' (blk_below (g := gb270) (o := .cells #[.slice A0_0 l0_0.length c0_0, .slice A0_1 l0_1.length c0_1, .int .i64 a0_2] 25 (0, 0)) (by (with_reducible repeat (first | refine kn' ?_ _ | refine kd' ?_ | refine ka' ?_ _)); exact BK270.out) hb); have n3_ := am' (below_step (by repeat (first | (with_reducible first | exact HB.out | apply ba' | apply bd' | apply be' | refine bs' ?_ GE270.out) | exact HB.out)) hb); clear BK270; clear HB; have HO275 := n0_; have HO278 := n1_; have BK270 := n2_; have HB := n3_; clear n0_ n1_ n2_ n3_; (try clear hb); (try clear hb2); (try clear hk); (try clear hi); (try clear ho0); (try clear ho1)) | ((with_reducible refine gate_callee (f := 30) rfl ?_); refine goesL_ (some 26) rfl rfl Try.func30 (by kernel_rfl) rfl #[.slice A1 l1.length c1] rfl (by (try simp only [List.map_toArray, List.map_cons, List.map_nil]); first | done | rfl | (simp only [List.length_drop, List.length_take]; rfl)) ?_; (with_reducible refine (laws_toIntSS.calls kj9 _ _ l1 t280 _ ?side1 ?side2 A13.out).mono ?_); (case side1 => repeat (first | exact (Kd.C_below HR1.out HB.out) | (with_reducible refine ca' ?_ _) | (with_reducible refine cn' ?_ _) | (with_reducible refine cd' ?_))); (case side2 => exact HC1.out); rintro e w21 ⟨v281, rfl, ho0, hb⟩; refine ⟨_, rfl, ?_⟩; obtain ⟨D311_, hdl_, hdg_⟩ := dlt_of hb; have D311_lt := am' hdl_; have D311_ge := am' hdg_; clear hdl_ hdg_; have n0_ := am' (Kd.R_below (Kd.R_dlt (by (with_reducible repeat (first | apply ra' | apply rn' | apply rw')); exact HO275.out) D311_lt.out) hb); have n1_ := am' (Kd.R_below (Kd.R_dlt (by (with_reducible repeat (first | apply ra' | apply rn' | apply rw')); exact HO278.out) D311_lt.out) hb); have n2_ := am' (Kd.S_lower (Kd.S_new' (Kd.S_dge ho0 D311_ge.out) (Kd.R_lt (by (with_reducible repeat (first | apply ra' | apply rn' | apply rw')); exact HO275.out))) (below_size (by repeat (first | (with_reducible first | exact HB.out | apply ba' | apply bd' | apply be' | refine bs' ?_ GE270.out) | exact HB.out)))); have n3_ := am' (blk_below (g := gb270) (o := .cells #[.slice A0_0 l0_0.length c0_0, .slice A0_1 l0_1.length c0_1, .int .i64 a0_2] 25 (0, 0)) (by (with_reducible repeat (first | refine kn' ?_ _ | refine kd' ?_ | refine ka' ?_ _)); exact BK270.out) hb); have n4_ := am' (below_step (by repeat (first | (with_reducible first | exact HB.out | apply ba' | apply bd' | apply be' | refine bs' ?_ GE270.out) | exact HB.out)) hb); clear HO275; clear HO278; clear BK270; clear HB; have HO275 := n0_; have HO278 := n1_; have HO282 := n2_; have BK270 := n3_; have HB := n4_; clear n0_ n1_ n2_ n3_ n4_; (try clear hb); (try clear hb2); (try clear hk); (try clear hi); (try clear ho0); obtain ⟨Ao22, co22, eo22⟩ := Kd.R_slice HO275.out; subst eo22; obtain ⟨Ao23, co23, eo23⟩ := Kd.R_slice HO278.out; subst eo23; obtain ⟨Ao24, co24, eo24⟩ := Kd.S_slice HO282.out; subst eo24) | ((with_reducible refine gate_callee (f := 29) rfl ?_); refine goesL_ (some 27) rfl rfl Try.func29 (by kernel_rfl) rfl #[.agg #[.slice Ao22 t273.length co22, .slice Ao23 t276.length co23, .int .i64 t279], .slice Ao24 t280.length co24] rfl (by (try simp only [List.map_toArray, List.map_cons, List.map_nil]); first | done | rfl | (simp only [List.length_drop, List.length_take]; rfl)) ?_; (with_reducible refine (spec_IsCrewPlan.calls kj9 _ _ t273 _ _ t276 t279 _ _ t280 t283 t284 _ ?side1 ?side2 ?side3 ?side4 ?side5 ?side6 A14.out).mono ?_); (case side1 => repeat (first | exact (Kd.R_reads' HO275.out).2.2 | (with_reducible refine ca' ?_ _) | (with_reducible refine cn' ?_ _) | (with_reducible refine cd' ?_))); (case side2 => exact (Kd.R_reads' HO275.out).2.1); (case side3 => repeat (first | exact (Kd.R_reads' HO278.out).2.2 | (with_reducible refine ca' ?_ _) | (with_reducible refine cn' ?_ _) | (with_reducible refine cd' ?_))); (case side4 => exact (Kd.R_reads' HO278.out).2.1); (case side5 => repeat (first | exact (Kd.S_reads' HO282.out).2.2 | (with_reducible refine ca' ?_ _) | (with_reducible refine cn' ?_ _) | (with_reducible refine cd' ?_))); (case side6 => exact (Kd.S_reads' HO282.out).2.1); rintro e w25 ⟨rfl, hb⟩; refine ⟨_, rfl, ?_⟩; have n0_ := am' (Kd.R_below (by (with_reducible repeat (first | apply ra' | apply rn' | apply rw')); exact HO275.out) hb); have n1_ := am' (Kd.R_below (by (with_reducible repeat (first | apply ra' | apply rn' | apply rw')); exact HO278.out) hb); have n2_ := am' (Kd.S_below (by (with_reducible repeat (first | apply Kd.S_alloc | apply Kd.S_drewN | apply Kd.S_drew)); exact HO282.out) hb); have n3_ := am' (blk_below (g := gb270) (o := .cells #[.slice A0_0 l0_0.length c0_0, .slice A0_1 l0_1.length c0_1, .int .i64 a0_2] 25 (0, 0)) (by (with_reducible repeat (first | refine kn' ?_ _ | refine kd' ?_ | refine ka' ?_ _)); exact BK270.out) hb); have n4_ := am' (below_step (by repeat (first | (with_reducible first | exact HB.out | apply ba' | apply bd' | apply be' | refine bs' ?_ GE270.out) | exact HB.out)) hb); clear HO275; clear HO278; clear HO282; clear BK270; clear HB; have HO275 := n0_; have HO278 := n1_; have HO282 := n2_; have BK270 := n3_; have HB := n4_; clear n0_ n1_ n2_ n3_ n4_; (try clear hb); (try clear hb2); (try clear hk); (try clear hi); have hcz26_0 : w25.cell? ⟨gb270, 0, none⟩ = some (.slice A0_0 l0_0.length c0_0) := (blk_cell BK270.out 0).trans rfl; have hcz26_1 : w25.cell? ⟨gb270, 1, none⟩ = some (.slice A0_1 l0_1.length c0_1) := (blk_cell BK270.out 1).trans rfl; have hcz26_2 : w25.cell? ⟨gb270, 2, none⟩ = some (.int .i64 a0_2) := (blk_cell BK270.out 2).trans rfl; have hfz26_0 := blk_frozen BK270.out 0; have hfz26_1 := blk_frozen BK270.out 1; have hfz26_2 := blk_frozen BK270.out 2) | ((with_reducible refine gate_callee (f := 14) rfl ?_); refine goesL_ (some 31) rfl rfl Try.func14 (by kernel_rfl) rfl #[.agg #[.slice A0_0 l0_0.length c0_0, .slice A0_1 l0_1.length c0_1, .int .i64 a0_2]] rfl (by (try simp only [List.map_toArray, List.map_cons, List.map_nil]); first | done | rfl | (simp only [List.length_drop, List.length_take]; rfl)) ?_; (with_reducible refine (laws_toCrew.calls kj9 _ _ l0_0 _ _ l0_1 a0_2 t285 t288 t291 _ ?side1 ?side2 ?side3 ?side4 A15.out).mono ?_); (case side1 => repeat (first | exact (Kd.C_below HR0_0.out HB.out) | (with_reducible refine ca' ?_ _) | (with_reducible refine cn' ?_ _) | (with_reducible refine cd' ?_))); (case side2 => exact HC0_0.out); (case side3 => repeat (first | exact (Kd.C_below HR0_1.out HB.out) | (with_reducible refine ca' ?_ _) | (with_reducible refine cn' ?_ _) | (with_reducible refine cd' ?_))); (case side4 => exact HC0_1.out); rintro e w27 ⟨v286, v289, rfl, ho0, ho1, hb⟩; refine ⟨_, rfl, ?_⟩; obtain ⟨D312_, hdl_, hdg_⟩ := dlt_of hb; have D312_lt := am' hdl_; have D312_ge := am' hdg_; clear hdl_ hdg_; have n0_ := am' (Kd.R_elder' (Kd.R_dlt (by (with_reducible repeat (first | apply ra' | apply rn' | apply rw')); exact HO275.out) D312_lt.out) (Kd.R_base ho0) hb); have n1_ := am' (Kd.R_elder' (Kd.R_dlt (by (with_reducible repeat (first | apply ra' | apply rn' | apply rw')); exact HO278.out) D312_lt.out) (Kd.R_base ho1) hb); have n2_ := am' (Kd.S_elder' (Kd.S_dlt (by (with_reducible repeat (first | apply Kd.S_alloc | apply Kd.S_drewN | apply Kd.S_drew)); exact HO282.out) D312_lt.out) (Kd.R_base ho0) hb); have n3_ := am' (Kd.R_lower (Kd.R_new' (Kd.R_dge ho0 D312_ge.out) (Kd.R_lt (by (with_reducible repeat (first | apply ra' | apply rn' | apply rw')); exact HO275.out))) (below_size (by repeat (first | (with_reducible first | exact HB.out | apply ba' | apply bd' | apply be' | refine bs' ?_ GE270.out) | exact HB.out)))); have n4_ := am' (Kd.R_lower (Kd.R_new' (Kd.R_dge ho1 D312_ge.out) (Kd.R_lt (by (with_reducible repeat (first | apply ra' | apply rn' | apply rw')); exact HO278.out))) (below_size (by repeat (first | (with_reducible first | exact HB.out | apply ba' | apply bd' | apply be' | refine bs' ?_ GE270.out) | exact HB.out)))); have n5_ := am' (blk_below (g := gb270) (o := .cells #[.slice A0_0 l0_0.length c0_0, .slice A0_1 l0_1.length c0_1, .int .i64 a0_2] 25 (0, 0)) (by (with_reducible repeat (first | refine kn' ?_ _ | refine kd' ?_ | refine ka' ?_ _)); exact BK270.out) hb); have n6_ := am' (below_step (by repeat (first | (with_reducible first | exact HB.out | apply ba' | apply bd' | apply be' | refine bs' ?_ GE270.out) | exact HB.out)) hb); clear HO275; clear HO278; clear HO282; clear BK270; clear HB; have HO275 := n0_; have HO278 := n1_; have HO282 := n2_; have HO287 := n3_; have HO290 := n4_; have BK270 := n5_; have HB := n6_; clear n0_ n1_ n2_ n3_ n4_ n5_ n6_; (try clear hb); (try clear hb2); (try clear hk); (try clear hi); (try clear ho0); (try clear ho1)) | ((with_reducible refine gate_dst (N := 8) rfl ?_); refine box_event ?hg (N := 8) ?hd (cs := #[.slice none 0 0, .slice none 0 0, .int .i64 0]) (t := 29) ?hr ?_; (case hd => rfl); (case hg => rfl); (case hr => first | (go_simp; done) | (go_simp; rfl)); intro gb292 hg w28 hbox hb; have n0_ := am' (Kd.R_below (by (with_reducible repeat (first | apply ra' | apply rn' | apply rw')); exact HO275.out) hb); have n1_ := am' (Kd.R_below (by (with_reducible repeat (first | apply ra' | apply rn' | apply rw')); exact HO278.out) hb); have n2_ := am' (Kd.S_below (by (with_reducible repeat (first | apply Kd.S_alloc | apply Kd.S_drewN | apply Kd.S_drew)); exact HO282.out) hb); have n3_ := am' (Kd.R_below (by (with_reducible repeat (first | apply ra' | apply rn' | apply rw')); exact HO287.out) hb); have n4_ := am' (Kd.R_below (by (with_reducible repeat (first | apply ra' | apply rn' | apply rw')); exact HO290.out) hb); have n5_ := am' (blk_below (g := gb270) (o := .cells #[.slice A0_0 l0_0.length c0_0, .slice A0_1 l0_1.length c0_1, .int .i64 a0_2] 25 (0, 0)) (by (with_reducible repeat (first | refine kn' ?_ _ | refine kd' ?_ | refine ka' ?_ _)); exact BK270.out) hb); have n6_ := am' (below_step (by repeat (first | (with_reducible first | exact HB.out | apply ba' | apply bd' | apply be' | refine bs' ?_ GE270.out) | exact HB.out)) hb); have n7_ := am' (hbox); have n8_ := am' ((by rw [hg]; exact (below_size (by repeat (first | (with_reducible first | exact HB.out | apply ba' | apply bd' | apply be' | refine bs' ?_ GE270.out) | exact HB.out))) : w.heap.size ≤ gb292)); have n9_ := am' ((by rw [hg]; exact (below_size (by repeat (first | (with_reducible first | exact HB.out | apply ba' | apply bd' | apply be' | refine bs' ?_ GE270.out) | exact HB.out))) : w.heap.size ≤ gb292)); have n10_ := am' ((by rw [hg]; exact Nat.ne_of_lt (blk_lt (g := gb270) (o := .cells #[.slice A0_0 l0_0.length c0_0, .slice A0_1 l0_1.length c0_1, .int .i64 a0_2] 25 (0, 0)) (by (with_reducible repeat (first | refine kn' ?_ _ | refine kd' ?_ | refine ka' ?_ _)); exact BK270.out)) : gb270 ≠ gb292)); have n11_ := am' ((by rw [hg]; exact Nat.ne_of_gt (blk_lt (g := gb270) (o := .cells #[.slice A0_0 l0_0.length c0_0, .slice A0_1 l0_1.length c0_1, .int .i64 a0_2] 25 (0, 0)) (by (with_reducible repeat (first | refine kn' ?_ _ | refine kd' ?_ | refine ka' ?_ _)); exact BK270.out)) : gb292 ≠ gb270)); clear HO275; clear HO278; clear HO282; clear HO287; clear HO290; clear BK270; clear HB; have HO275 := n0_; have HO278 := n1_; have HO282 := n2_; have HO287 := n3_; have HO290 := n4_; have BK270 := n5_; have HB := n6_; have BK292 := n7_; have GW292 := n8_; have GE292 := n9_; have NB270_292 := n10_; have NB292_270 := n11_; clear n0_ n1_ n2_ n3_ n4_ n5_ n6_ n7_ n8_ n9_ n10_ n11_; clear hb hbox hg; obtain ⟨Ao29, co29, eo29⟩ := Kd.R_slice HO287.out; subst eo29; have hnb30 := NB292_270.out; have hnc30 := NB270_292.out; have hcz31_0 : w28.cell? ⟨gb292, 0, none⟩ = some (.slice none 0 0) := (blk_cell BK292.out 0).trans rfl; have hcz31_1 : w28.cell? ⟨gb292, 1, none⟩ = some (.slice none 0 0) := (blk_cell BK292.out 1).trans rfl; have hcz31_2 : w28.cell? ⟨gb292, 2, none⟩ = some (.int .i64 0) := (blk_cell BK292.out 2).trans rfl; have hfz31_0 := blk_frozen BK292.out 0; have hfz31_1 := blk_frozen BK292.out 1; have hfz31_2 := blk_frozen BK292.out 2; obtain ⟨Ao32, co32, eo32⟩ := Kd.R_slice HO290.out; subst eo32) | ((with_reducible refine gate_callee (f := 30) rfl ?_); refine goesL_ (some 33) rfl rfl Try.func30 (by kernel_rfl) rfl #[.slice A1 l1.length c1] rfl (by (try simp only [List.map_toArray, List.map_cons, List.map_nil]); first | done | rfl | (simp only [List.length_drop, List.length_take]; rfl)) ?_; (with_reducible refine (laws_toIntSS.calls kj9 _ _ l1 t293 _ ?side1 ?side2 A16.out).mono ?_); (case side1 => exact Kd.C_below HR1.out (by repeat (first | (with_reducible first | exact HB.out | apply ba' | apply bd' | apply be' | refine bs' ?_ GE270.out | refine bs' ?_ GE292.out) | exact HB.out))); (case side2 => exact HC1.out); rintro e w33 ⟨v294, rfl, ho0, hb⟩; refine ⟨_, rfl, ?_⟩; obtain ⟨D313_, hdl_, hdg_⟩ := dlt_of hb; have D313_lt := am' hdl_; have D313_ge := am' hdg_; clear hdl_ hdg_; have n0_ := am' (Kd.R_below (Kd.R_dlt (by (with_reducible repeat (first | apply ra' | apply rn' | apply rw')); exact (Kd.R_mono (Kd.R_far (p := ⟨gb292, 2, none⟩) (Kd.R_far (p := ⟨gb292, 1, none⟩) (Kd.R_far (p := ⟨gb292, 0, none⟩) (Kd.R_types HO275.out BK292.out (by decide)) (fun _ hk => hk.2) (.slice Ao29 t285.length co29)) (fun _ hk => hk.2) (.slice Ao32 t288.length co32)) (fun _ hk => hk.2) (.int .i64 t291)) (fun _ h_ => h_.1))) D313_lt.out) hb); have n1_ := am' (Kd.R_below (Kd.R_dlt (by (with_reducible repeat (first | apply ra' | apply rn' | apply rw')); exact (Kd.R_mono (Kd.R_far (p := ⟨gb292, 2, none⟩) (Kd.R_far (p := ⟨gb292, 1, none⟩) (Kd.R_far (p := ⟨gb292, 0, none⟩) (Kd.R_types HO278.out BK292.out (by decide)) (fun _ hk => hk.2) (.slice Ao29 t285.length co29)) (fun _ hk => hk.2) (.slice Ao32 t288.length co32)) (fun _ hk => hk.2) (.int .i64 t291)) (fun _ h_ => h_.1))) D313_lt.out) hb); have n2_ := am' (Kd.S_elder' (Kd.S_dlt (by (with_reducible repeat (first | apply Kd.S_alloc | apply Kd.S_drewN | apply Kd.S_drew)); exact (Kd.S_mono (Kd.S_far (p := ⟨gb292, 2, none⟩) (Kd.S_far (p := ⟨gb292, 1, none⟩) (Kd.S_far (p := ⟨gb292, 0, none⟩) (Kd.S_types HO282.out BK292.out (by decide)) (fun _ hk => hk.2) (.slice Ao29 t285.length co29)) (fun _ hk => hk.2) (.slice Ao32 t288.length co32)) (fun _ hk => hk.2) (.int .i64 t291)) (fun _ h_ => h_.1))) D313_lt.out) (Kd.S_base ho0) hb); have n3_ := am' (Kd.R_below (Kd.R_dlt (by (with_reducible repeat (first | apply ra' | apply rn' | apply rw')); exact (Kd.R_mono (Kd.R_far (p := ⟨gb292, 2, none⟩) (Kd.R_far (p := ⟨gb292, 1, none⟩) (Kd.R_far (p := ⟨gb292, 0, none⟩) (Kd.R_types HO287.out BK292.out (by decide)) (fun _ hk => hk.2) (.slice Ao29 t285.length co29)) (fun _ hk => hk.2) (.slice Ao32 t288.length co32)) (fun _ hk => hk.2) (.int .i64 t291)) (fun _ h_ => h_.1))) D313_lt.out) hb); have n4_ := am' (Kd.R_below (Kd.R_dlt (by (with_reducible repeat (first | apply ra' | apply rn' | apply rw')); exact (Kd.R_mono (Kd.R_far (p := ⟨gb292, 2, none⟩) (Kd.R_far (p := ⟨gb292, 1, none⟩) (Kd.R_far (p := ⟨gb292, 0, none⟩) (Kd.R_types HO290.out BK292.out (by decide)) (fun _ hk => hk.2) (.slice Ao29 t285.length co29)) (fun _ hk => hk.2) (.slice Ao32 t288.length co32)) (fun _ hk => hk.2) (.int .i64 t291)) (fun _ h_ => h_.1))) D313_lt.out) hb); have n5_ := am' (Kd.S_lower (Kd.S_new' (Kd.S_new' (Kd.S_new' (Kd.S_dge ho0 D313_ge.out) (Kd.R_lt (by (with_reducible repeat (first | apply ra' | apply rn' | apply rw')); exact (Kd.R_mono (Kd.R_far (p := ⟨gb292, 2, none⟩) (Kd.R_far (p := ⟨gb292, 1, none⟩) (Kd.R_far (p := ⟨gb292, 0, none⟩) (Kd.R_types HO275.out BK292.out (by decide)) (fun _ hk => hk.2) (.slice Ao29 t285.length co29)) (fun _ hk => hk.2) (.slice Ao32 t288.length co32)) (fun _ hk => hk.2) (.int .i64 t291)) (fun _ h_ => h_.1))))) (Kd.S_lt (by (with_reducible repeat (first | apply Kd.S_alloc | apply Kd.S_drewN | apply Kd.S_drew)); exact (Kd.S_mono (Kd.S_far (p := ⟨gb292, 2, none⟩) (Kd.S_far (p := ⟨gb292, 1, none⟩) (Kd.S_far (p := ⟨gb292, 0, none⟩) (Kd.S_types HO282.out BK292.out (by decide)) (fun _ hk => hk.2) (.slice Ao29 t285.length co29)) (fun _ hk => hk.2) (.slice Ao32 t288.length co32)) (fun _ hk => hk.2) (.int .i64 t291)) (fun _ h_ => h_.1))))) (Kd.R_lt (by (with_reducible repeat (first | apply ra' | apply rn' | apply rw')); exact (Kd.R_mono (Kd.R_far (p := ⟨gb292, 2, none⟩) (Kd.R_far (p := ⟨gb292, 1, none⟩) (Kd.R_far (p := ⟨gb292, 0, none⟩) (Kd.R_types HO287.out BK292.out (by decide)) (fun _ hk => hk.2) (.slice Ao29 t285.length co29)) (fun _ hk => hk.2) (.slice Ao32 t288.length co32)) (fun _ hk => hk.2) (.int .i64 t291)) (fun _ h_ => h_.1))))) (below_size (by repeat (first | (with_reducible first | exact HB.out | apply ba' | apply bd' | apply be' | refine bs' ?_ GE270.out | refine bs' ?_ GE292.out) | exact HB.out)))); have n6_ := am' (blk_below (g := gb270) (o := .cells #[.slice A0_0 l0_0.length c0_0, .slice A0_1 l0_1.length c0_1, .int .i64 a0_2] 25 (0, 0)) (by (with_reducible repeat (first | refine kn' ?_ _ | refine kd' ?_ | refine ka' ?_ _)); refine blk_far ?_ NB270_292.out _; (with_reducible repeat (first | refine kn' ?_ _ | refine kd' ?_ | refine ka' ?_ _)); refine blk_far ?_ NB270_292.out _; (with_reducible repeat (first | refine kn' ?_ _ | refine kd' ?_ | refine ka' ?_ _)); refine blk_far ?_ NB270_292.out _; (with_reducible repeat (first | refine kn' ?_ _ | refine kd' ?_ | refine ka' ?_ _)); exact BK270.out) hb); have n7_ := am' (blk_below (g := gb292) (o := .cells #[.slice Ao29 t285.length co29, .slice Ao32 t288.length co32, .int .i64 t291] 29 (0, 0)) (by (with_reducible repeat (first | refine kn' ?_ _ | refine kd' ?_ | refine ka' ?_ _)); refine blk_put (cs := #[.slice Ao29 t285.length co29, .slice Ao32 t288.length co32, .int .i64 0]) ?_ 2 _ rfl; (with_reducible repeat (first | refine kn' ?_ _ | refine kd' ?_ | refine ka' ?_ _)); refine blk_put (cs := #[.slice Ao29 t285.length co29, .slice none 0 0, .int .i64 0]) ?_ 1 _ rfl; (with_reducible repeat (first | refine kn' ?_ _ | refine kd' ?_ | refine ka' ?_ _)); refine blk_put (cs := #[.slice none 0 0, .slice none 0 0, .int .i64 0]) ?_ 0 _ rfl; (with_reducible repeat (first | refine kn' ?_ _ | refine kd' ?_ | refine ka' ?_ _)); exact BK292.out) hb); have n8_ := am' (below_step (by repeat (first | (with_reducible first | exact HB.out | apply ba' | apply bd' | apply be' | refine bs' ?_ GE270.out | refine bs' ?_ GE292.out) | exact HB.out)) hb); clear HO275; clear HO278; clear HO282; clear HO287; clear HO290; clear BK270; clear BK292; clear HB; have HO275 := n0_; have HO278 := n1_; have HO282 := n2_; have HO287 := n3_; have HO290 := n4_; have HO295 := n5_; have BK270 := n6_; have BK292 := n7_; have HB := n8_; clear n0_ n1_ n2_ n3_ n4_ n5_ n6_ n7_ n8_; (try clear hb); (try clear hb2); (try clear hk); (try clear hi); (try clear ho0); have hcz34_0 : w33.cell? ⟨gb292, 0, none⟩ = some (.slice Ao29 t285.length co29) := (blk_cell BK292.out 0).trans rfl; have hcz34_1 : w33.cell? ⟨gb292, 1, none⟩ = some (.slice Ao32 t288.length co32) := (blk_cell BK292.out 1).trans rfl; have hcz34_2 : w33.cell? ⟨gb292, 2, none⟩ = some (.int .i64 t291) := (blk_cell BK292.out 2).trans rfl; have hfz34_0 := blk_frozen BK292.out 0; have hfz34_1 := blk_frozen BK292.out 1; have hfz34_2 := blk_frozen BK292.out 2; obtain ⟨Ao35, co35, eo35⟩ := Kd.S_slice HO295.out; subst eo35) | ((with_reducible refine gate_callee (f := 31) rfl ?_); refine goesL_ (some 37) rfl rfl Try.func31 (by kernel_rfl) rfl #[.agg #[.slice Ao29 t285.length co29, .slice Ao32 t288.length co32, .int .i64 t291], .slice Ao35 t293.length co35] rfl (by (try simp only [List.map_toArray, List.map_cons, List.map_nil]); first | done | rfl | (simp only [List.length_drop, List.length_take]; rfl)) ?_; (with_reducible refine (impl_IsCrewPlan.calls kj9 _ _ t285 _ _ t288 t291 _ _ t293 t296 t297 _ ?side1 ?side2 ?side3 ?side4 ?side5 ?side6 A17.out).mono ?_); (case side1 => repeat (first | exact (Kd.R_reads' HO287.out).2.2 | (with_reducible refine ca' ?_ _) | (with_reducible refine cn' ?_ _) | (with_reducible refine cd' ?_))); (case side2 => exact (Kd.R_reads' HO287.out).2.1); (case side3 => repeat (first | exact (Kd.R_reads' HO290.out).2.2 | (with_reducible refine ca' ?_ _) | (with_reducible refine cn' ?_ _) | (with_reducible refine cd' ?_))); (case side4 => exact (Kd.R_reads' HO290.out).2.1); (case side5 => repeat (first | exact (Kd.S_reads' HO295.out).2.2 | (with_reducible refine ca' ?_ _) | (with_reducible refine cn' ?_ _) | (with_reducible refine cd' ?_))); (case side6 => exact (Kd.S_reads' HO295.out).2.1); rintro e w36 ⟨rfl, hb⟩; refine ⟨_, rfl, ?_⟩; have n0_ := am' (Kd.R_below (by (with_reducible repeat (first | apply ra' | apply rn' | apply rw')); exact HO275.out) hb); have n1_ := am' (Kd.R_below (by (with_reducible repeat (first | apply ra' | apply rn' | apply rw')); exact HO278.out) hb); have n2_ := am' (Kd.S_below (by (with_reducible repeat (first | apply Kd.S_alloc | apply Kd.S_drewN | apply Kd.S_drew)); exact HO282.out) hb); have n3_ := am' (Kd.R_below (by (with_reducible repeat (first | apply ra' | apply rn' | apply rw')); exact HO287.out) hb); have n4_ := am' (Kd.R_below (by (with_reducible repeat (first | apply ra' | apply rn' | apply rw')); exact HO290.out) hb); have n5_ := am' (Kd.S_below (by (with_reducible repeat (first | apply Kd.S_alloc | apply Kd.S_drewN | apply Kd.S_drew)); exact HO295.out) hb); have n6_ := am' (blk_below (g := gb270) (o := .cells #[.slice A0_0 l0_0.length c0_0, .slice A0_1 l0_1.length c0_1, .int .i64 a0_2] 25 (0, 0)) (by (with_reducible repeat (first | refine kn' ?_ _ | refine kd' ?_ | refine ka' ?_ _)); exact BK270.out) hb); have n7_ := am' (blk_below (g := gb292) (o := .cells #[.slice Ao29 t285.length co29, .slice Ao32 t288.length co32, .int .i64 t291] 29 (0, 0)) (by (with_reducible repeat (first | refine kn' ?_ _ | refine kd' ?_ | refine ka' ?_ _)); exact BK292.out) hb); have n8_ := am' (below_step (by repeat (first | (with_reducible first | exact HB.out | apply ba' | apply bd' | apply be' | refine bs' ?_ GE270.out | refine bs' ?_ GE292.out) | exact HB.out)) hb); clear HO275; clear HO278; clear HO282; clear HO287; clear HO290; clear HO295; clear BK270; clear BK292; clear HB; have HO275 := n0_; have HO278 := n1_; have HO282 := n2_; have HO287 := n3_; have HO290 := n4_; have HO295 := n5_; have BK270 := n6_; have BK292 := n7_; have HB := n8_; clear n0_ n1_ n2_ n3_ n4_ n5_ n6_ n7_ n8_; (try clear hb); (try clear hb2); (try clear hk); (try clear hi)))
     (try simp only [Act.put, sa', sb', sc'])
     go_cut [47] (fun v47 wc => ∃ (kq : Nat) (x47_17 : Bool), v47 = .bool x47_17 ∧ Aside0 (laws_FnExactIsCrewPlan.j2 kq l1 t293 x47_17 l0_0 l0_1 a0_2 t285 t288 t291 = some r) ∧ Aside0 (kq ≤ kj9) ∧ Aside0 (Kd.S (Kd.slice 3 (Kd.int .i64)) 22 wc w.heap.size (fun k_ => some k_ ≠ ((.slice Ao29 t285.length co29) : Value).ownBlock ∧ ¬ D313_ k_) (.slice Ao35 t293.length co35) t293) ∧ Aside0 (Kd.R (Kd.int .i64) 3 wc w.heap.size (fun k_ => ¬ D312_ k_ ∧ D313_ k_) (.slice Ao29 t285.length co29) t285) ∧ Aside0 (Kd.R Kd.bool 4 wc w.heap.size (fun k_ => ¬ D312_ k_ ∧ D313_ k_) (.slice Ao32 t288.length co32) t288) ∧ Aside0 (wc.heap[gb270]? = some (.cells #[(.slice A0_0 l0_0.length c0_0), (.slice A0_1 l0_1.length c0_1), .int .i64 a0_2] 25 (0, 0))) ∧ Aside0 (wc.heap[gb292]? = some (.cells #[(.slice Ao29 t285.length co29), (.slice Ao32 t288.length co32), .int .i64 t291] 29 (0, 0))) ∧ Aside0 (Below w.heap.size w wc))
     case first =>
      have H := HC18.out
      clear HC18; by_cases c37 : (t296 != t283) = true
      ·
       rw [if_pos c37] at H; have c37b0 : (t296 != t283) = true := c37
       (try (have c37b1 : decide (t296 = t283) = false := by simpa using c37))
       (try (have c37b2 : (t296 == t283) = false := by simpa using c37))
       (try (have c37b3 : ¬ (t296 = t283) := by simpa using c37))
       clear c37; (first | rw [c37b0] | (simp only [i64_w, i32_w]; rw [c37b0]) | skip)
       have H' := am' H
       clear H; go_wp2
       go_meet
       case rel => exact ⟨_, (true), (by first | rfl | (simp; done) | (simp [*]; done)), H', ⟨by have := HJ3.out; have := HJ9.out; first | omega | exact Nat.le_refl _⟩, ⟨by (with_reducible repeat (first | apply Kd.S_alloc | apply Kd.S_drewN | apply Kd.S_drew)); exact Kd.S_mono HO295.out (fun _ hk => ⟨hk.2, hk.1.1.1.2⟩)⟩, ⟨by (with_reducible repeat (first | apply ra' | apply rn' | apply rw')); exact Kd.R_mono HO287.out (fun _ hk => ⟨hk.1.1.2, hk.2⟩)⟩, ⟨by (with_reducible repeat (first | apply ra' | apply rn' | apply rw')); exact Kd.R_mono HO290.out (fun _ hk => ⟨hk.1.1.2, hk.2⟩)⟩, ⟨by (with_reducible repeat (first | refine kn' ?_ _ | refine kd' ?_ | refine ka' ?_ _)); exact BK270.out⟩, ⟨by (with_reducible repeat (first | refine kn' ?_ _ | refine kd' ?_ | refine ka' ?_ _)); exact BK292.out⟩, ⟨by repeat (first | (with_reducible first | exact HB.out | apply ba' | apply bd' | apply be' | refine bs' ?_ GE270.out | refine bs' ?_ GE292.out) | exact HB.out)⟩⟩
      ·
       rw [if_neg c37] at H; have c37b0 : (t296 != t283) = false := by simpa using c37
       (try (have c37b1 : decide (t296 = t283) = true := by simpa using c37))
       (try (have c37b2 : (t296 == t283) = true := by simpa using c37))
       clear c37; (first | rw [c37b0] | (simp only [i64_w, i32_w]; rw [c37b0]) | skip)
       have H' := am' H
       clear H; go_wp2
       go_meet
       case rel => exact ⟨_, ((t297 != t284)), (by first | rfl | (simp; done) | (simp [*]; done)), H', ⟨by have := HJ3.out; have := HJ9.out; first | omega | exact Nat.le_refl _⟩, ⟨by (with_reducible repeat (first | apply Kd.S_alloc | apply Kd.S_drewN | apply Kd.S_drew)); exact Kd.S_mono HO295.out (fun _ hk => ⟨hk.2, hk.1.1.1.2⟩)⟩, ⟨by (with_reducible repeat (first | apply ra' | apply rn' | apply rw')); exact Kd.R_mono HO287.out (fun _ hk => ⟨hk.1.1.2, hk.2⟩)⟩, ⟨by (with_reducible repeat (first | apply ra' | apply rn' | apply rw')); exact Kd.R_mono HO290.out (fun _ hk => ⟨hk.1.1.2, hk.2⟩)⟩, ⟨by (with_reducible repeat (first | refine kn' ?_ _ | refine kd' ?_ | refine ka' ?_ _)); exact BK270.out⟩, ⟨by (with_reducible repeat (first | refine kn' ?_ _ | refine kd' ?_ | refine ka' ?_ _)); exact BK292.out⟩, ⟨by repeat (first | (with_reducible first | exact HB.out | apply ba' | apply bd' | apply be' | refine bs' ?_ GE270.out | refine bs' ?_ GE292.out) | exact HB.out)⟩⟩
     case rest =>
      clear HC18; try clear c1
      try clear c2
      try clear p2
      try clear c3
      try clear c5
      try clear c8
      try clear c8b0
      try clear c11
      try clear c11b0
      try clear c12
      try clear c14
      try clear c28
      try clear c29
      try clear c30
      try clear c31
      try clear c37
      try clear c37b0
      try clear c37b1
      try clear c37b2
      try clear hcz19_0
      try clear hcz19_1
      try clear hcz19_2
      try clear hcz26_0
      try clear hcz26_1
      try clear hcz26_2
      try clear hcz31_0
      try clear hcz31_1
      try clear hcz31_2
      try clear hcz34_0
      try clear hcz34_1
      try clear hcz34_2
      try clear hcz6_0
      try clear hcz6_1
      try clear hcz6_2
      try clear hfz19_0
      try clear hfz19_1
      try clear hfz19_2
      try clear hfz26_0
      try clear hfz26_1
      try clear hfz26_2
      try clear hfz31_0
      try clear hfz31_1
      try clear hfz31_2
      try clear hfz34_0
      try clear hfz34_1
      try clear hfz34_2
      try clear hfz6_0
      try clear hfz6_1
      try clear hfz6_2
      try clear p2
      obtain ⟨kq, x47_17, rfl, HA, HJ17, HO_9, HO_293000, HO_293001, BK270, BK292, HB⟩ := hcut
      cases kq with
      | zero => exact absurd HA.out (by simp [laws_FnExactIsCrewPlan.j2])
      | succ kj17 =>
       have H := HA.out
       clear HA; simp only [laws_FnExactIsCrewPlan.j2] at H
       have HC38 := am' H
       clear H; go_upto_if 47 with (fail)
       go_cut [] (fun wc => ∃ (kq : Nat), Aside0 (laws_FnExactIsCrewPlan.j3 kq l1 t293 l0_0 l0_1 a0_2 t285 t288 t291 = some r) ∧ Aside0 (kq ≤ kj17) ∧ Aside0 (Kd.S (Kd.slice 3 (Kd.int .i64)) 22 wc w.heap.size (fun k_ => some k_ ≠ ((.slice Ao29 t285.length co29) : Value).ownBlock ∧ ¬ D313_ k_) (.slice Ao35 t293.length co35) t293) ∧ Aside0 (Kd.R (Kd.int .i64) 3 wc w.heap.size (fun k_ => ¬ D312_ k_ ∧ D313_ k_) (.slice Ao29 t285.length co29) t285) ∧ Aside0 (Kd.R Kd.bool 4 wc w.heap.size (fun k_ => ¬ D312_ k_ ∧ D313_ k_) (.slice Ao32 t288.length co32) t288) ∧ Aside0 (wc.heap[gb270]? = some (.cells #[(.slice A0_0 l0_0.length c0_0), (.slice A0_1 l0_1.length c0_1), .int .i64 a0_2] 25 (0, 0))) ∧ Aside0 (wc.heap[gb292]? = some (.cells #[(.slice Ao29 t285.length co29), (.slice Ao32 t288.length co32), .int .i64 t291] 29 (0, 0))) ∧ Aside0 (Below w.heap.size w wc))
       case first =>
        have H := HC38.out
        clear HC38; by_cases c39 : x47_17 = true
        ·
         subst c39; have H1 : (some false) = some r := by rw [if_pos rfl] at H; exact H
         clear H; have H := H1; clear H1; obtain rfl := Option.some.inj H
         go_wp2
         go_ret
         exact ⟨by first | rfl | (simp [errW_none, errW_some] <;> rfl) | (simp [*, errW_none, errW_some] <;> rfl), by repeat (first | (with_reducible first | exact HB.out | apply ba' | apply bd' | apply be' | refine bs' ?_ GE270.out | refine bs' ?_ GE292.out) | exact HB.out)⟩
        ·
         replace c39 := Bool.eq_false_iff.mpr c39
         subst c39; have H1 : (laws_FnExactIsCrewPlan.j3 kj17 l1 t293 l0_0 l0_1 a0_2 t285 t288 t291) = some r := by rw [if_neg (show ¬ (false = true) by decide)] at H; exact H
         clear H; have H := H1; clear H1; have H' := am' H
         clear H; go_wp2
         go_meet
         case rel => exact ⟨_, H', ⟨by have := HJ3.out; have := HJ9.out; have := HJ17.out; first | omega | exact Nat.le_refl _⟩, ⟨by (with_reducible repeat (first | apply Kd.S_alloc | apply Kd.S_drewN | apply Kd.S_drew)); exact HO_9.out⟩, ⟨by (with_reducible repeat (first | apply ra' | apply rn' | apply rw')); exact HO_293000.out⟩, ⟨by (with_reducible repeat (first | apply ra' | apply rn' | apply rw')); exact HO_293001.out⟩, ⟨by (with_reducible repeat (first | refine kn' ?_ _ | refine kd' ?_ | refine ka' ?_ _)); exact BK270.out⟩, ⟨by (with_reducible repeat (first | refine kn' ?_ _ | refine kd' ?_ | refine ka' ?_ _)); exact BK292.out⟩, ⟨by repeat (first | (with_reducible first | exact HB.out | apply ba' | apply bd' | apply be' | refine bs' ?_ GE270.out | refine bs' ?_ GE292.out) | exact HB.out)⟩⟩
       case rest =>
        clear HC38; try clear c1
        try clear c2
        try clear p2
        try clear c3
        try clear c5
        try clear c8
        try clear c8b0
        try clear c11
        try clear c11b0
        try clear c12
        try clear c14
        try clear c28
        try clear c29
        try clear c30
        try clear c31
        try clear c37
        try clear c37b0
        try clear c37b1
        try clear c37b2
        try clear c39
        try clear hcz19_0
        try clear hcz19_1
        try clear hcz19_2
        try clear hcz26_0
        try clear hcz26_1
        try clear hcz26_2
        try clear hcz31_0
        try clear hcz31_1
        try clear hcz31_2
        try clear hcz34_0
        try clear hcz34_1
        try clear hcz34_2
        try clear hcz6_0
        try clear hcz6_1
        try clear hcz6_2
        try clear hfz19_0
        try clear hfz19_1
        try clear hfz19_2
        try clear hfz26_0
        try clear hfz26_1
        try clear hfz26_2
        try clear hfz31_0
        try clear hfz31_1
        try clear hfz31_2
        try clear hfz34_0
        try clear hfz34_1
        try clear hfz34_2
        try clear hfz6_0
        try clear hfz6_1
        try clear hfz6_2
        try clear p2
        obtain ⟨kq, HA, HJ37, HO_9, HO_293000, HO_293001, BK270, BK292, HB⟩ := hcut
        cases kq with
        | zero => exact absurd HA.out (by simp [laws_FnExactIsCrewPlan.j3])
        | succ kj37 =>
         have H := HA.out
         clear HA; simp only [laws_FnExactIsCrewPlan.j3] at H
         replace H := Option.bind_eq_some_iff.mp H
         obtain ⟨⟨t298, t301, t304⟩, A400, H⟩ := H
         replace H : ((laws_eqCrew.f kj37 t285 t288 t291 t298 t301 t304).bind fun t305 => (if t305 = true then (laws_FnExactIsCrewPlan.j4 kj37 l1 t293) else (some false))) = some r := H
         have A40 := am' A400
         clear A400; replace H := Option.bind_eq_some_iff.mp H
         obtain ⟨t305, A410, H⟩ := H
         replace H : (if t305 = true then (laws_FnExactIsCrewPlan.j4 kj37 l1 t293) else (some false)) = some r := H
         have A41 := am' A410
         clear A410; have HC42 := am' H
         clear H; try go_wp2
         have n0_ := am' (Kd.S_drew HO_9.out)
         have n1_ := am' (rw' HO_293000.out)
         have n2_ := am' (rw' HO_293001.out)
         have n3_ := am' (kd' BK270.out)
         have n4_ := am' (kd' BK292.out)
         have n5_ := am' (be' HB.out)
         clear HO_9; clear HO_293000; clear HO_293001; clear BK270; clear BK292; clear HB; have HO_9 := n0_; have HO_293000 := n1_; have HO_293001 := n2_; have BK270 := n3_; have BK292 := n4_; have HB := n5_; clear n0_ n1_ n2_ n3_ n4_ n5_; refine start_ (n := 5) (S := fun w' => w'.cell? ⟨gb292, 0, none⟩ = some (.slice Ao29 t285.length co29) ∧ w'.cell? ⟨gb292, 1, none⟩ = some (.slice Ao32 t288.length co32) ∧ w'.cell? ⟨gb292, 2, none⟩ = some (.int .i64 t291) ∧ w'.cell? ⟨gb270, 0, none⟩ = some (.slice A0_0 l0_0.length c0_0) ∧ w'.cell? ⟨gb270, 1, none⟩ = some (.slice A0_1 l0_1.length c0_1) ∧ w'.cell? ⟨gb270, 2, none⟩ = some (.int .i64 a0_2)) (ds := []) #[false, false, false, false, false] (by kernel_rfl) rfl rfl ⟨(blk_cell BK292.out 0).trans rfl, (blk_cell BK292.out 1).trans rfl, (blk_cell BK292.out 2).trans rfl, (blk_cell BK270.out 0).trans rfl, (blk_cell BK270.out 1).trans rfl, (blk_cell BK270.out 2).trans rfl⟩ (fun hHeld => ?_)
         generalize wc.drew = w43 at HO_9 HO_293000 HO_293001 BK270 BK292 HB hHeld ⊢
         refine take_ (i := 0) (N := some 48) (v := ?_) (a' := ?_) #[true, false, false, false, false] rfl rfl (by kernel_rfl) (fun _ _ _ h => h) (Or.inl ⟨by rfl, ?_⟩) hHeld ?_ ?_
         rotate_left
         ·
          rintro w' ⟨s0, s1, s2, s3, s4, s5⟩
          go_simp; with_reducible rfl
         rotate_left
         ·
          simp only [Act.put, sa', sb', sc', i64_w, i32_w]
          rfl
         refine take_ (i := 1) (N := some 49) (v := ?_) (a' := ?_) #[true, true, false, false, false] rfl rfl (by kernel_rfl) (fun _ _ _ h => h) (Or.inl ⟨by rfl, ?_⟩) hHeld ?_ ?_
         rotate_left
         ·
          rintro w' ⟨s0, s1, s2, s3, s4, s5⟩
          go_simp; with_reducible rfl
         rotate_left
         ·
          simp only [Act.put, sa', sb', sc', i64_w, i32_w]
          rfl
         refine one_ (i := 2) (N := some 50) #[true, true, true, false, false] rfl rfl (by kernel_rfl) (by decide) (fun K hK => ?_)
         refine goes_ Try.func14 (by kernel_rfl) rfl #[.agg #[.slice A0_0 l0_0.length c0_0, .slice A0_1 l0_1.length c0_1, .int .i64 a0_2]] (by rfl) rfl rfl (by (try simp only [List.map_toArray, List.map_cons, List.map_nil]); first | done | rfl | (simp only [List.length_drop, List.length_take]; rfl)) ?_
         with_reducible refine (laws_toCrew.calls kj37 _ _ l0_0 _ _ l0_1 a0_2 t298 t301 t304 _ ?side1 ?side2 ?side3 ?side4 A40.out).mono ?_
         (case side1 => repeat (first | exact (Kd.C_below HR0_0.out HB.out) | (with_reducible refine ca' ?_ _) | (with_reducible refine cn' ?_ _) | (with_reducible refine cd' ?_)))
         (case side2 => exact HC0_0.out)
         (case side3 => repeat (first | exact (Kd.C_below HR0_1.out HB.out) | (with_reducible refine ca' ?_ _) | (with_reducible refine cn' ?_ _) | (with_reducible refine cd' ?_)))
         (case side4 => exact HC0_1.out)
         rintro e w44 ⟨v299, v302, rfl, ho0, ho1, hb⟩
         refine ⟨_, rfl, ?_⟩
         have n0_ := am' (Kd.S_elder' (by (with_reducible repeat (first | apply Kd.S_alloc | apply Kd.S_drewN | apply Kd.S_drew)); exact HO_9.out) (Kd.R_base ho0) hb)
         have n1_ := am' (Kd.R_elder' (by (with_reducible repeat (first | apply ra' | apply rn' | apply rw')); exact HO_293000.out) (Kd.R_base ho0) hb)
         have n2_ := am' (Kd.R_elder' (by (with_reducible repeat (first | apply ra' | apply rn' | apply rw')); exact HO_293001.out) (Kd.R_base ho1) hb)
         have n3_ := am' (Kd.R_lower (Kd.R_new' ho0 (Kd.R_lt (by (with_reducible repeat (first | apply ra' | apply rn' | apply rw')); exact HO_293000.out))) (below_size (by repeat (first | (with_reducible first | exact HB.out | apply ba' | apply bd' | apply be' | refine bs' ?_ GE270.out | refine bs' ?_ GE292.out) | exact HB.out))))
         have n4_ := am' (Kd.R_lower (Kd.R_new' ho1 (Kd.R_lt (by (with_reducible repeat (first | apply ra' | apply rn' | apply rw')); exact HO_293001.out))) (below_size (by repeat (first | (with_reducible first | exact HB.out | apply ba' | apply bd' | apply be' | refine bs' ?_ GE270.out | refine bs' ?_ GE292.out) | exact HB.out))))
         have n5_ := am' (blk_below (g := gb270) (o := .cells #[.slice A0_0 l0_0.length c0_0, .slice A0_1 l0_1.length c0_1, .int .i64 a0_2] 25 (0, 0)) (by (with_reducible repeat (first | refine kn' ?_ _ | refine kd' ?_ | refine ka' ?_ _)); exact BK270.out) hb)
         have n6_ := am' (blk_below (g := gb292) (o := .cells #[.slice Ao29 t285.length co29, .slice Ao32 t288.length co32, .int .i64 t291] 29 (0, 0)) (by (with_reducible repeat (first | refine kn' ?_ _ | refine kd' ?_ | refine ka' ?_ _)); exact BK292.out) hb)
         have n7_ := am' (below_step (by repeat (first | (with_reducible first | exact HB.out | apply ba' | apply bd' | apply be' | refine bs' ?_ GE270.out | refine bs' ?_ GE292.out) | exact HB.out)) hb)
         clear HO_9; clear HO_293000; clear HO_293001; clear BK270; clear BK292; clear HB; have HO_9 := n0_; have HO_293000 := n1_; have HO_293001 := n2_; have HO300 := n3_; have HO303 := n4_; have BK270 := n5_; have BK292 := n6_; have HB := n7_; clear n0_ n1_ n2_ n3_ n4_ n5_ n6_ n7_; (try clear hb)
         (try clear hb2)
         (try clear hk)
         (try clear hi)
         (try clear ho0)
         (try clear ho1)
         obtain ⟨Ao45, co45, eo45⟩ := Kd.R_slice HO300.out
         (first | subst eo45 | (injection eo45 with f1_ f2_ f3_; have f4_ := f1_.symm; have f5_ := f3_.symm; clear f1_ f2_ f3_; subst f4_; subst f5_))
         obtain ⟨Ao46, co46, eo46⟩ := Kd.R_slice HO303.out
         (first | subst eo46 | (injection eo46 with f1_ f2_ f3_; have f4_ := f1_.symm; have f5_ := f3_.symm; clear f1_ f2_ f3_; subst f4_; subst f5_))
         refine hK.out _ _ ⟨(blk_cell BK292.out 0).trans rfl, (blk_cell BK292.out 1).trans rfl, (blk_cell BK292.out 2).trans rfl, (blk_cell BK270.out 0).trans rfl, (blk_cell BK270.out 1).trans rfl, (blk_cell BK270.out 2).trans rfl⟩ (fun hHeld => ?_)
         clear hK K; refine norm_ (a' := ?_) ?_ ?_
         rotate_left
         ·
          show Act.put _ (some 50) _ = _
          simp only [Act.put, sa', sb', sc', i64_w, i32_w]
          rfl
         refine one_ (i := 3) (N := some 51) #[true, true, true, true, false] rfl rfl (by kernel_rfl) (by decide) (fun K hK => ?_)
         refine goes_ Try.func17 (by kernel_rfl) rfl #[.agg #[.slice Ao29 t285.length co29, .slice Ao32 t288.length co32, .int .i64 t291], .agg #[.slice Ao45 t298.length co45, .slice Ao46 t301.length co46, .int .i64 t304]] (by rfl) rfl rfl (by (try simp only [List.map_toArray, List.map_cons, List.map_nil]); first | done | rfl | (simp only [List.length_drop, List.length_take]; rfl)) ?_
         with_reducible refine (laws_eqCrew.calls kj37 _ _ t285 _ _ t288 t291 _ _ t298 _ _ t301 t304 t305 _ ?side1 ?side2 ?side3 ?side4 ?side5 ?side6 ?side7 ?side8 A41.out).mono ?_
         (case side1 => repeat (first | exact (Kd.R_reads' HO_293000.out).2.2 | (with_reducible refine ca' ?_ _) | (with_reducible refine cn' ?_ _) | (with_reducible refine cd' ?_)))
         (case side2 => exact (Kd.R_reads' HO_293000.out).2.1)
         (case side3 => repeat (first | exact (Kd.R_reads' HO_293001.out).2.2 | (with_reducible refine ca' ?_ _) | (with_reducible refine cn' ?_ _) | (with_reducible refine cd' ?_)))
         (case side4 => exact (Kd.R_reads' HO_293001.out).2.1)
         (case side5 => repeat (first | exact (Kd.R_reads' HO300.out).2.2 | (with_reducible refine ca' ?_ _) | (with_reducible refine cn' ?_ _) | (with_reducible refine cd' ?_)))
         (case side6 => exact (Kd.R_reads' HO300.out).2.1)
         (case side7 => repeat (first | exact (Kd.R_reads' HO303.out).2.2 | (with_reducible refine ca' ?_ _) | (with_reducible refine cn' ?_ _) | (with_reducible refine cd' ?_)))
         (case side8 => exact (Kd.R_reads' HO303.out).2.1)
         rintro e w47 ⟨rfl, hb⟩
         refine ⟨_, rfl, ?_⟩
         have n0_ := am' (Kd.S_below (by (with_reducible repeat (first | apply Kd.S_alloc | apply Kd.S_drewN | apply Kd.S_drew)); exact HO_9.out) hb)
         have n1_ := am' (Kd.R_below (by (with_reducible repeat (first | apply ra' | apply rn' | apply rw')); exact HO_293000.out) hb)
         have n2_ := am' (Kd.R_below (by (with_reducible repeat (first | apply ra' | apply rn' | apply rw')); exact HO_293001.out) hb)
         have n3_ := am' (Kd.R_below (by (with_reducible repeat (first | apply ra' | apply rn' | apply rw')); exact HO300.out) hb)
         have n4_ := am' (Kd.R_below (by (with_reducible repeat (first | apply ra' | apply rn' | apply rw')); exact HO303.out) hb)
         have n5_ := am' (blk_below (g := gb270) (o := .cells #[.slice A0_0 l0_0.length c0_0, .slice A0_1 l0_1.length c0_1, .int .i64 a0_2] 25 (0, 0)) (by (with_reducible repeat (first | refine kn' ?_ _ | refine kd' ?_ | refine ka' ?_ _)); exact BK270.out) hb)
         have n6_ := am' (blk_below (g := gb292) (o := .cells #[.slice Ao29 t285.length co29, .slice Ao32 t288.length co32, .int .i64 t291] 29 (0, 0)) (by (with_reducible repeat (first | refine kn' ?_ _ | refine kd' ?_ | refine ka' ?_ _)); exact BK292.out) hb)
         have n7_ := am' (below_step (by repeat (first | (with_reducible first | exact HB.out | apply ba' | apply bd' | apply be' | refine bs' ?_ GE270.out | refine bs' ?_ GE292.out) | exact HB.out)) hb)
         clear HO_9; clear HO_293000; clear HO_293001; clear HO300; clear HO303; clear BK270; clear BK292; clear HB; have HO_9 := n0_; have HO_293000 := n1_; have HO_293001 := n2_; have HO300 := n3_; have HO303 := n4_; have BK270 := n5_; have BK292 := n6_; have HB := n7_; clear n0_ n1_ n2_ n3_ n4_ n5_ n6_ n7_; (try clear hb)
         (try clear hb2)
         (try clear hk)
         (try clear hi)
         refine hK.out _ _ ⟨(blk_cell BK292.out 0).trans rfl, (blk_cell BK292.out 1).trans rfl, (blk_cell BK292.out 2).trans rfl, (blk_cell BK270.out 0).trans rfl, (blk_cell BK270.out 1).trans rfl, (blk_cell BK270.out 2).trans rfl⟩ (fun hHeld => ?_)
         clear hK K; refine norm_ (a' := ?_) ?_ ?_
         rotate_left
         ·
          show Act.put _ (some 51) _ = _
          simp only [Act.put, sa', sb', sc', i64_w, i32_w]
          rfl
         refine pure_ (i := 4) (N := some 52) (v := ?_) (a' := ?_) #[true, true, true, true, true] rfl rfl (by kernel_rfl) (fun _ _ _ h => h) (Or.inl ⟨by rfl, ?_⟩) ?_ ?_
         rotate_left
         ·
          intro w'; go_simp; with_reducible rfl
         rotate_left
         ·
          simp only [Act.put, sa', sb', sc', i64_w, i32_w]
          rfl
         refine done_ (by kernel_rfl) ?_
         go_upto_if 52 with (fail)
         go_cut [] (fun wc => ∃ (kq : Nat), Aside0 (laws_FnExactIsCrewPlan.j4 kq l1 t293 = some r) ∧ Aside0 (kq ≤ kj37) ∧ Aside0 (Kd.S (Kd.slice 3 (Kd.int .i64)) 22 wc w.heap.size (fun k_ => some k_ ≠ ((.slice Ao29 t285.length co29) : Value).ownBlock ∧ ¬ D313_ k_) (.slice Ao35 t293.length co35) t293) ∧ Aside0 (Kd.R (Kd.int .i64) 3 wc w.heap.size (fun k_ => ¬ D312_ k_ ∧ D313_ k_) (.slice Ao29 t285.length co29) t285) ∧ Aside0 (Kd.R Kd.bool 4 wc w.heap.size (fun k_ => ¬ D312_ k_ ∧ D313_ k_) (.slice Ao32 t288.length co32) t288) ∧ Aside0 (wc.heap[gb270]? = some (.cells #[(.slice A0_0 l0_0.length c0_0), (.slice A0_1 l0_1.length c0_1), .int .i64 a0_2] 25 (0, 0))) ∧ Aside0 (wc.heap[gb292]? = some (.cells #[(.slice Ao29 t285.length co29), (.slice Ao32 t288.length co32), .int .i64 t291] 29 (0, 0))) ∧ Aside0 (Below w.heap.size w wc))
         case first =>
          have H := HC42.out
          clear HC42; by_cases c48 : t305 = true
          ·
           subst c48; have H1 : (laws_FnExactIsCrewPlan.j4 kj37 l1 t293) = some r := by rw [if_pos rfl] at H; exact H
           clear H; have H := H1; clear H1; have H' := am' H
           clear H; go_wp2
           go_meet
           case rel => exact ⟨_, H', ⟨by have := HJ3.out; have := HJ9.out; have := HJ17.out; have := HJ37.out; first | omega | exact Nat.le_refl _⟩, ⟨by (with_reducible repeat (first | apply Kd.S_alloc | apply Kd.S_drewN | apply Kd.S_drew)); exact Kd.S_mono HO_9.out (fun _ hk => ⟨hk.1.1, hk.1.2⟩)⟩, ⟨by (with_reducible repeat (first | apply ra' | apply rn' | apply rw')); exact Kd.R_mono HO_293000.out (fun _ hk => ⟨hk.1.1, hk.1.2⟩)⟩, ⟨by (with_reducible repeat (first | apply ra' | apply rn' | apply rw')); exact Kd.R_mono HO_293001.out (fun _ hk => ⟨hk.1.1, hk.1.2⟩)⟩, ⟨by (with_reducible repeat (first | refine kn' ?_ _ | refine kd' ?_ | refine ka' ?_ _)); exact BK270.out⟩, ⟨by (with_reducible repeat (first | refine kn' ?_ _ | refine kd' ?_ | refine ka' ?_ _)); exact BK292.out⟩, ⟨by repeat (first | (with_reducible first | exact HB.out | apply ba' | apply bd' | apply be' | refine bs' ?_ GE270.out | refine bs' ?_ GE292.out) | exact HB.out)⟩⟩
          ·
           replace c48 := Bool.eq_false_iff.mpr c48
           subst c48; have H1 : (some false) = some r := by rw [if_neg (show ¬ (false = true) by decide)] at H; exact H
           clear H; have H := H1; clear H1; obtain rfl := Option.some.inj H
           go_wp2
           go_ret
           exact ⟨by first | rfl | (simp [errW_none, errW_some] <;> rfl) | (simp [*, errW_none, errW_some] <;> rfl), by repeat (first | (with_reducible first | exact HB.out | apply ba' | apply bd' | apply be' | refine bs' ?_ GE270.out | refine bs' ?_ GE292.out) | exact HB.out)⟩
         case rest =>
          clear HC42; try clear c1
          try clear c2
          try clear p2
          try clear c3
          try clear c4
          try clear c5
          try clear c8
          try clear c8b0
          try clear c11
          try clear c11b0
          try clear c12
          try clear c14
          try clear c17
          try clear c28
          try clear c29
          try clear c30
          try clear c31
          try clear c37
          try clear c37b0
          try clear c37b1
          try clear c37b2
          try clear c39
          try clear c48
          try clear hcz19_0
          try clear hcz19_1
          try clear hcz19_2
          try clear hcz26_0
          try clear hcz26_1
          try clear hcz26_2
          try clear hcz31_0
          try clear hcz31_1
          try clear hcz31_2
          try clear hcz34_0
          try clear hcz34_1
          try clear hcz34_2
          try clear hcz6_0
          try clear hcz6_1
          try clear hcz6_2
          try clear hfz19_0
          try clear hfz19_1
          try clear hfz19_2
          try clear hfz26_0
          try clear hfz26_1
          try clear hfz26_2
          try clear hfz31_0
          try clear hfz31_1
          try clear hfz31_2
          try clear hfz34_0
          try clear hfz34_1
          try clear hfz34_2
          try clear hfz6_0
          try clear hfz6_1
          try clear hfz6_2
          try clear p2
          obtain ⟨kq, HA, HJ41, HO_9, HO_293000, HO_293001, BK270, BK292, HB⟩ := hcut
          cases kq with
          | zero => exact absurd HA.out (by simp [laws_FnExactIsCrewPlan.j4])
          | succ kj41 =>
           have H := HA.out
           clear HA; simp only [laws_FnExactIsCrewPlan.j4] at H
           replace H := Option.bind_eq_some_iff.mp H
           obtain ⟨t306, A490, H⟩ := H
           replace H : ((laws_eqIntSS.f kj41 t293 t306).bind fun t309 => (if t309 = true then (some true) else (some false))) = some r := H
           have A49 := am' A490
           clear A490; replace H := Option.bind_eq_some_iff.mp H
           obtain ⟨t309, A500, H⟩ := H
           replace H : (if t309 = true then (some true) else (some false)) = some r := H
           have A50 := am' A500
           clear A500; by_cases c51 : t309 = true
           ·
            subst c51; have H1 : (some true) = some r := by rw [if_pos rfl] at H; exact H
            clear H; have H := H1; clear H1; obtain rfl := Option.some.inj H
            go_wp2_with (first | ((with_reducible refine gate_callee (f := 30) rfl ?_); refine goesL_ (some 55) rfl rfl Try.func30 (by kernel_rfl) rfl #[.slice A1 l1.length c1] rfl (by (try simp only [List.map_toArray, List.map_cons, List.map_nil]); first | done | rfl | (simp only [List.length_drop, List.length_take]; rfl)) ?_; (with_reducible refine (laws_toIntSS.calls kj41 _ _ l1 t306 _ ?side1 ?side2 A49.out).mono ?_); (case side1 => repeat (first | exact (Kd.C_below HR1.out HB.out) | (with_reducible refine ca' ?_ _) | (with_reducible refine cn' ?_ _) | (with_reducible refine cd' ?_))); (case side2 => exact HC1.out); rintro e w52 ⟨v307, rfl, ho0, hb⟩; refine ⟨_, rfl, ?_⟩; obtain ⟨D314_, hdl_, hdg_⟩ := dlt_of hb; have D314_lt := am' hdl_; have D314_ge := am' hdg_; clear hdl_ hdg_; have n0_ := am' (Kd.S_elder' (Kd.S_dlt (by (with_reducible repeat (first | apply Kd.S_alloc | apply Kd.S_drewN | apply Kd.S_drew)); exact HO_9.out) D314_lt.out) (Kd.S_base ho0) hb); have n1_ := am' (Kd.R_below (Kd.R_dlt (by (with_reducible repeat (first | apply ra' | apply rn' | apply rw')); exact HO_293000.out) D314_lt.out) hb); have n2_ := am' (Kd.R_below (Kd.R_dlt (by (with_reducible repeat (first | apply ra' | apply rn' | apply rw')); exact HO_293001.out) D314_lt.out) hb); have n3_ := am' (Kd.S_lower (Kd.S_new' (Kd.S_new' (Kd.S_dge ho0 D314_ge.out) (Kd.S_lt (by (with_reducible repeat (first | apply Kd.S_alloc | apply Kd.S_drewN | apply Kd.S_drew)); exact HO_9.out))) (Kd.R_lt (by (with_reducible repeat (first | apply ra' | apply rn' | apply rw')); exact HO_293000.out))) (below_size (by repeat (first | (with_reducible first | exact HB.out | apply ba' | apply bd' | apply be' | refine bs' ?_ GE270.out | refine bs' ?_ GE292.out) | exact HB.out)))); have n4_ := am' (blk_below (g := gb270) (o := .cells #[.slice A0_0 l0_0.length c0_0, .slice A0_1 l0_1.length c0_1, .int .i64 a0_2] 25 (0, 0)) (by (with_reducible repeat (first | refine kn' ?_ _ | refine kd' ?_ | refine ka' ?_ _)); exact BK270.out) hb); have n5_ := am' (blk_below (g := gb292) (o := .cells #[.slice Ao29 t285.length co29, .slice Ao32 t288.length co32, .int .i64 t291] 29 (0, 0)) (by (with_reducible repeat (first | refine kn' ?_ _ | refine kd' ?_ | refine ka' ?_ _)); exact BK292.out) hb); have n6_ := am' (below_step (by repeat (first | (with_reducible first | exact HB.out | apply ba' | apply bd' | apply be' | refine bs' ?_ GE270.out | refine bs' ?_ GE292.out) | exact HB.out)) hb); clear HO_9; clear HO_293000; clear HO_293001; clear BK270; clear BK292; clear HB; have HO_9 := n0_; have HO_293000 := n1_; have HO_293001 := n2_; have HO308 := n3_; have BK270 := n4_; have BK292 := n5_; have HB := n6_; clear n0_ n1_ n2_ n3_ n4_ n5_ n6_; (try clear hb); (try clear hb2); (try clear hk); (try clear hi); (try clear ho0); obtain ⟨Ao53, co53, eo53⟩ := Kd.S_slice HO308.out; subst eo53) | ((with_reducible refine gate_callee (f := 32) rfl ?_); refine goesL_ (some 56) rfl rfl Try.func32 (by kernel_rfl) rfl #[.slice Ao35 t293.length co35, .slice Ao53 t306.length co53] rfl (by (try simp only [List.map_toArray, List.map_cons, List.map_nil]); first | done | rfl | (simp only [List.length_drop, List.length_take]; rfl)) ?_; (with_reducible refine (laws_eqIntSS.calls kj41 _ _ t293 _ _ t306 true _ ?side1 ?side2 ?side3 ?side4 A50.out).mono ?_); (case side1 => repeat (first | exact (Kd.S_reads' HO_9.out).2.2 | (with_reducible refine ca' ?_ _) | (with_reducible refine cn' ?_ _) | (with_reducible refine cd' ?_))); (case side2 => exact (Kd.S_reads' HO_9.out).2.1); (case side3 => repeat (first | exact (Kd.S_reads' HO308.out).2.2 | (with_reducible refine ca' ?_ _) | (with_reducible refine cn' ?_ _) | (with_reducible refine cd' ?_))); (case side4 => exact (Kd.S_reads' HO308.out).2.1); rintro e w' ⟨rfl, ⟨nd, rfl⟩⟩; refine ⟨_, rfl, ?_⟩))
            go_ret
            exact ⟨by first | rfl | (simp [errW_none, errW_some] <;> rfl) | (simp [*, errW_none, errW_some] <;> rfl), by repeat (first | (with_reducible first | exact HB.out | apply ba' | apply bd' | apply be' | refine bs' ?_ GE270.out | refine bs' ?_ GE292.out) | exact HB.out)⟩
           ·
            replace c51 := Bool.eq_false_iff.mpr c51
            subst c51; have H1 : (some false) = some r := by rw [if_neg (show ¬ (false = true) by decide)] at H; exact H
            clear H; have H := H1; clear H1; obtain rfl := Option.some.inj H
            go_wp2_with (first | ((with_reducible refine gate_callee (f := 30) rfl ?_); refine goesL_ (some 55) rfl rfl Try.func30 (by kernel_rfl) rfl #[.slice A1 l1.length c1] rfl (by (try simp only [List.map_toArray, List.map_cons, List.map_nil]); first | done | rfl | (simp only [List.length_drop, List.length_take]; rfl)) ?_; (with_reducible refine (laws_toIntSS.calls kj41 _ _ l1 t306 _ ?side1 ?side2 A49.out).mono ?_); (case side1 => repeat (first | exact (Kd.C_below HR1.out HB.out) | (with_reducible refine ca' ?_ _) | (with_reducible refine cn' ?_ _) | (with_reducible refine cd' ?_))); (case side2 => exact HC1.out); rintro e w54 ⟨v307, rfl, ho0, hb⟩; refine ⟨_, rfl, ?_⟩; obtain ⟨D315_, hdl_, hdg_⟩ := dlt_of hb; have D315_lt := am' hdl_; have D315_ge := am' hdg_; clear hdl_ hdg_; have n0_ := am' (Kd.S_elder' (Kd.S_dlt (by (with_reducible repeat (first | apply Kd.S_alloc | apply Kd.S_drewN | apply Kd.S_drew)); exact HO_9.out) D315_lt.out) (Kd.S_base ho0) hb); have n1_ := am' (Kd.R_below (Kd.R_dlt (by (with_reducible repeat (first | apply ra' | apply rn' | apply rw')); exact HO_293000.out) D315_lt.out) hb); have n2_ := am' (Kd.R_below (Kd.R_dlt (by (with_reducible repeat (first | apply ra' | apply rn' | apply rw')); exact HO_293001.out) D315_lt.out) hb); have n3_ := am' (Kd.S_lower (Kd.S_new' (Kd.S_new' (Kd.S_dge ho0 D315_ge.out) (Kd.S_lt (by (with_reducible repeat (first | apply Kd.S_alloc | apply Kd.S_drewN | apply Kd.S_drew)); exact HO_9.out))) (Kd.R_lt (by (with_reducible repeat (first | apply ra' | apply rn' | apply rw')); exact HO_293000.out))) (below_size (by repeat (first | (with_reducible first | exact HB.out | apply ba' | apply bd' | apply be' | refine bs' ?_ GE270.out | refine bs' ?_ GE292.out) | exact HB.out)))); have n4_ := am' (blk_below (g := gb270) (o := .cells #[.slice A0_0 l0_0.length c0_0, .slice A0_1 l0_1.length c0_1, .int .i64 a0_2] 25 (0, 0)) (by (with_reducible repeat (first | refine kn' ?_ _ | refine kd' ?_ | refine ka' ?_ _)); exact BK270.out) hb); have n5_ := am' (blk_below (g := gb292) (o := .cells #[.slice Ao29 t285.length co29, .slice Ao32 t288.length co32, .int .i64 t291] 29 (0, 0)) (by (with_reducible repeat (first | refine kn' ?_ _ | refine kd' ?_ | refine ka' ?_ _)); exact BK292.out) hb); have n6_ := am' (below_step (by repeat (first | (with_reducible first | exact HB.out | apply ba' | apply bd' | apply be' | refine bs' ?_ GE270.out | refine bs' ?_ GE292.out) | exact HB.out)) hb); clear HO_9; clear HO_293000; clear HO_293001; clear BK270; clear BK292; clear HB; have HO_9 := n0_; have HO_293000 := n1_; have HO_293001 := n2_; have HO308 := n3_; have BK270 := n4_; have BK292 := n5_; have HB := n6_; clear n0_ n1_ n2_ n3_ n4_ n5_ n6_; (try clear hb); (try clear hb2); (try clear hk); (try clear hi); (try clear ho0); obtain ⟨Ao55, co55, eo55⟩ := Kd.S_slice HO308.out; subst eo55) | ((with_reducible refine gate_callee (f := 32) rfl ?_); refine goesL_ (some 56) rfl rfl Try.func32 (by kernel_rfl) rfl #[.slice Ao35 t293.length co35, .slice Ao55 t306.length co55] rfl (by (try simp only [List.map_toArray, List.map_cons, List.map_nil]); first | done | rfl | (simp only [List.length_drop, List.length_take]; rfl)) ?_; (with_reducible refine (laws_eqIntSS.calls kj41 _ _ t293 _ _ t306 false _ ?side1 ?side2 ?side3 ?side4 A50.out).mono ?_); (case side1 => repeat (first | exact (Kd.S_reads' HO_9.out).2.2 | (with_reducible refine ca' ?_ _) | (with_reducible refine cn' ?_ _) | (with_reducible refine cd' ?_))); (case side2 => exact (Kd.S_reads' HO_9.out).2.1); (case side3 => repeat (first | exact (Kd.S_reads' HO308.out).2.2 | (with_reducible refine ca' ?_ _) | (with_reducible refine cn' ?_ _) | (with_reducible refine cd' ?_))); (case side4 => exact (Kd.S_reads' HO308.out).2.1); rintro e w' ⟨rfl, ⟨nd, rfl⟩⟩; refine ⟨_, rfl, ?_⟩))
            go_ret
            exact ⟨by first | rfl | (simp [errW_none, errW_some] <;> rfl) | (simp [*, errW_none, errW_some] <;> rfl), by repeat (first | (with_reducible first | exact HB.out | apply ba' | apply bd' | apply be' | refine bs' ?_ GE270.out | refine bs' ?_ GE292.out) | exact HB.out)⟩
end Go.Proofs.Ytikjdmiohpdnaaa.C2
