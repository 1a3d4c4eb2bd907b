import Derived.Test.YtpobeakggacdpaaC6zx0
import Derived.Test.YtpobeakggacdpaaC6zx1
import Derived.Test.YtpobeakggacdpaaC6zx2
import Derived.Test.YtpobeakggacdpaaC6zx4
import Derived.Test.YtpobeakggacdpaaC6zx5
import Derived.Test.YtpobeakggacdpaaC6zx9
import Derived.Test.YtpobeakggacdpaaC6zAl
namespace Go.Proofs.Ytpobeakggacdpaa.C6
open Go.RowKit Go.Proofs.YtpobeakggacdpaaW.PrintWords Go.Proofs.YtpobeakggacdpaaW.PrintLast Go.Proofs.YtpobeakggacdpaaW.PrintMore Go.Proofs.Ytpobeakggacdpaa.H
attribute [local go_sem] max2_int min2_int max_two min_two max_three min_three max_four min_four
set_option linter.unusedVariables false
set_option linter.unusedSimpArgs false
mutual
def laws_FnExactCanRound.j0 : Nat → List (List Int) → Int → List Int → Int → Int → List Bool → Int → Option (Bool)
 | 0, _, _, _, _, _, _, _ => none
 | k + 1, x2, x7, x243000, x243001, x243002, x244000, x244001 => (laws_szCamp.f x244000 x244001 x7).bind fun t245 => (if t245 < 0 then (some true) else (laws_FnExactCanRound.j1 k x2 t245 x243000 x243001 x243002 x244000 x244001))
def laws_FnExactCanRound.j1 : Nat → List (List Int) → Int → List Int → Int → Int → List Bool → Int → Option (Bool)
 | 0, _, _, _, _, _, _, _ => none
 | k + 1, x2, x7, x243000, x243001, x243002, x244000, x244001 => (laws_szIntSS.f k x2 x7).bind fun t246 => (if t246 < 0 then (some true) else (laws_FnExactCanRound.j2 k x2 x243000 x243001 x243002 x244000 x244001))
def laws_FnExactCanRound.j2 : Nat → List (List Int) → List Int → Int → Int → List Bool → Int → Option (Bool)
 | 0, _, _, _, _, _, _ => none
 | k + 1, x2, x243000, x243001, x243002, x244000, x244001 => (laws_toNight.f k x243000 x243001 x243002).bind fun bt247 => ((laws_toCamp.f k x244000 x244001).bind fun bt252 => ((laws_toIntSS.f k x2).bind fun t256 => ((spec_CanRound.f k bt247.1 bt247.2.1 bt247.2.2 bt252.1 bt252.2 t256).bind fun bt259 => ((laws_toNight.f k x243000 x243001 x243002).bind fun bt261 => ((laws_toCamp.f k x244000 x244001).bind fun bt267 => ((laws_toIntSS.f k x2).bind fun t272 => ((impl_CanRound.f k bt261.1 bt261.2.1 bt261.2.2 bt267.1 bt267.2 t272).bind fun bt275 => (if (bt275.1 != bt259.1) = true then (laws_FnExactCanRound.j3 k x2 t272 true x243000 x243001 x243002 x244000 x244001 bt261.1 bt261.2.1 bt261.2.2 bt267.1 bt267.2) else (laws_FnExactCanRound.j3 k x2 t272 (bt275.2 != bt259.2) x243000 x243001 x243002 x244000 x244001 bt261.1 bt261.2.1 bt261.2.2 bt267.1 bt267.2)))))))))
def laws_FnExactCanRound.j3 : Nat → List (List Int) → List (List Int) → Bool → List Int → Int → Int → List Bool → Int → List Int → Int → Int → List Bool → Int → Option (Bool)
 | 0, _, _, _, _, _, _, _, _, _, _, _, _, _ => none
 | k + 1, x2, x12, x60, x243000, x243001, x243002, x244000, x244001, x267000, x267001, x267002, x272000, x272001 => if x60 = true then (some false) else (laws_FnExactCanRound.j4 k x2 x12 x243000 x243001 x243002 x244000 x244001 x267000 x267001 x267002 x272000 x272001)
def laws_FnExactCanRound.j4 : Nat → List (List Int) → List (List Int) → List Int → Int → Int → List Bool → Int → List Int → Int → Int → List Bool → Int → Option (Bool)
 | 0, _, _, _, _, _, _, _, _, _, _, _, _ => none
 | k + 1, x2, x12, x243000, x243001, x243002, x244000, x244001, x267000, x267001, x267002, x272000, x272001 => (laws_toNight.f k x243000 x243001 x243002).bind fun bt277 => ((laws_eqNight.f k x267000 x267001 x267002 bt277.1 bt277.2.1 bt277.2.2).bind fun t282 => (if t282 = true then (laws_FnExactCanRound.j5 k x2 x12 x244000 x244001 x272000 x272001) else (some false)))
def laws_FnExactCanRound.j5 : Nat → List (List Int) → List (List Int) → List Bool → Int → List Bool → Int → Option (Bool)
 | 0, _, _, _, _, _, _ => none
 | k + 1, x2, x12, x244000, x244001, x272000, x272001 => (laws_toCamp.f k x244000 x244001).bind fun bt283 => ((laws_eqCamp.f k x272000 x272001 bt283.1 bt283.2).bind fun t287 => (if t287 = true then (laws_FnExactCanRound.j6 k x2 x12) else (some false)))
def laws_FnExactCanRound.j6 : Nat → List (List Int) → List (List Int) → Option (Bool)
 | 0, _, _ => none
 | k + 1, x2, x12 => (laws_toIntSS.f k x2).bind fun t288 => ((laws_eqIntSS.f k x12 t288).bind fun t291 => (if t291 = true then (some true) else (some false)))
end
def laws_FnExactCanRound.f (k : Nat) (l0_0 : List Int) (a0_1 : Int) (a0_2 : Int) (l1_0 : List Bool) (a1_1 : Int) (l2 : List (List Int)) : Option (Bool) := (laws_szNight.f l0_0 a0_1 a0_2 1048576).bind fun t244 => (if t244 < 0 then (some true) else (laws_FnExactCanRound.j0 k l2 t244 l0_0 a0_1 a0_2 l1_0 a1_1))
def laws_FnExactCanRound.T11 : Bool × List (List Nat × List Nat) := (true, [([], []), ([0], [0]), ([], []), ([2, 1], [2]), ([], []), ([4, 3], [4]), ([1, 3, 5, 5], [1, 3, 5]), ([6], [6]), ([7], [7]), ([7], [7]), ([8, 6, 0, 1, 2, 3, 4, 5, 6, 7, 8], [8]), ([9, 10, 0, 1, 2, 3, 4, 5, 6, 7, 8, 9, 10], [9])])
def laws_FnExactCanRound.B11 : List Nat := [0, 1, 0, 7, 0, 31, 63, 127, 255, 255, 511, 2047]
theorem laws_FnExactCanRound.tab11 : rtab .any (opsOf Try.f5 11) = laws_FnExactCanRound.T11 := by kernel_rfl
theorem laws_FnExactCanRound.bits11 : waitsOk laws_FnExactCanRound.T11.2 laws_FnExactCanRound.B11 = true := by kernel_rfl
set_option maxHeartbeats 8000000 in
set_option maxRecDepth 100000 in
theorem laws_FnExactCanRound.calls (k : Nat) (A0_0 : Option Addr) (c0_0 : Nat) (l0_0 : List Int) (a0_1 : Int) (a0_2 : Int) (A1_0 : Option Addr) (c1_0 : Nat) (l1_0 : List Bool) (a1_1 : Int) (A2 : Option Addr) (c2 : Nat) (l2 : List (List Int)) (r : Bool) (w : World) (hr0_0 : Kd.C (Kd.int .i64) w A0_0 l0_0.length l0_0) (hc0_0 : l0_0.length ≤ c0_0) (hr1_0 : Kd.C Kd.bool w A1_0 l1_0.length l1_0) (hc1_0 : l1_0.length ≤ c1_0) (hr2 : Kd.C (Kd.slice 3 (Kd.int .i64)) w A2 l2.length l2) (hc2 : l2.length ≤ c2) (h : laws_FnExactCanRound.f k l0_0 a0_1 a0_2 l1_0 a1_1 l2 = some r) :
  Calls Try.prog 5 #[.agg #[.slice A0_0 l0_0.length c0_0, .int .i64 a0_1, .int .i64 a0_2], .agg #[.slice A1_0 l1_0.length c1_0, .int .i64 a1_1], .slice A2 l2.length c2] w fun e w' => e = .returned (.bool r) ∧ Below w.heap.size w w' := by
 have hu24 := Try.underlying24
 have hu45 := Try.underlying45
 have hu31 := Try.underlying31
 have hu28 := Try.underlying28
 have HR0_0 := am' hr0_0
 have HC0_0 := am' hc0_0
 clear hr0_0 hc0_0; have HR1_0 := am' hr1_0
 have HC1_0 := am' hc1_0
 clear hr1_0 hc1_0; have HR2 := am' hr2
 have HC2 := am' hc2
 clear hr2 hc2; have HB := am' (Below.refl w.heap.size w)
 have H : ((laws_szNight.f l0_0 a0_1 a0_2 1048576).bind fun t244 => (if t244 < 0 then (some true) else (laws_FnExactCanRound.j0 k l2 t244 l0_0 a0_1 a0_2 l1_0 a1_1))) = some r := h
 clear h; replace H := Option.bind_eq_some_iff.mp H
 obtain ⟨t244, A40, H⟩ := H
 replace H : (if t244 < 0 then (some true) else (laws_FnExactCanRound.j0 k l2 t244 l0_0 a0_1 a0_2 l1_0 a1_1)) = some r := H
 have A4 := am' A40
 clear A40; have HC5 := am' H
 clear H; go_enter Try.func5, Try.ntmps5
 go_upto_if 19 with (first | ((with_reducible refine gate_dst (N := 3) rfl ?_); refine box_event ?hg (N := 3) ?hd (cs := #[.slice A0_0 l0_0.length c0_0, .int .i64 a0_1, .int .i64 a0_2]) (t := 24) ?hr ?_; (case hd => rfl); (case hg => rfl); (case hr => first | (go_simp; done) | (go_simp; rfl)); intro gb242 hg w6 hbox hb; have n0_ := am' (below_step (by repeat (first | (with_reducible first | exact HB.out | apply ba' | apply bd' | apply be') | exact HB.out)) hb); have n1_ := am' (hbox); have n2_ := am' ((by rw [hg]; exact (below_size (by repeat (first | (with_reducible first | exact HB.out | apply ba' | apply bd' | apply be') | exact HB.out))) : w.heap.size ≤ gb242)); have n3_ := am' ((by rw [hg]; exact (below_size (by repeat (first | (with_reducible first | exact HB.out | apply ba' | apply bd' | apply be') | exact HB.out))) : w.heap.size ≤ gb242)); clear HB; have HB := n0_; have BK242 := n1_; have GW242 := n2_; have GE242 := n3_; clear n0_ n1_ n2_ n3_; clear hb hbox hg) | ((with_reducible refine gate_dst (N := 4) rfl ?_); refine box_event ?hg (N := 4) ?hd (cs := #[.slice A1_0 l1_0.length c1_0, .int .i64 a1_1]) (t := 45) ?hr ?_; (case hd => rfl); (case hg => rfl); (case hr => first | (go_simp; done) | (go_simp; rfl)); intro gb243 hg w7 hbox hb; have n0_ := am' (blk_below (g := gb242) (o := .cells #[.slice A0_0 l0_0.length c0_0, .int .i64 a0_1, .int .i64 a0_2] 24 (0, 0)) (by (with_reducible repeat (first | refine kn' ?_ _ | refine kd' ?_ | refine ka' ?_ _)); exact BK242.out) hb); have n1_ := am' (below_step (by repeat (first | (with_reducible first | exact HB.out | apply ba' | apply bd' | apply be' | refine bs' ?_ GE242.out) | exact HB.out)) hb); have n2_ := am' (hbox); have n3_ := am' ((by rw [hg]; exact (below_size (by repeat (first | (with_reducible first | exact HB.out | apply ba' | apply bd' | apply be' | refine bs' ?_ GE242.out) | exact HB.out))) : w.heap.size ≤ gb243)); have n4_ := am' ((by rw [hg]; exact (below_size (by repeat (first | (with_reducible first | exact HB.out | apply ba' | apply bd' | apply be' | refine bs' ?_ GE242.out) | exact HB.out))) : w.heap.size ≤ gb243)); have n5_ := am' ((by rw [hg]; exact Nat.ne_of_lt (blk_lt (g := gb242) (o := .cells #[.slice A0_0 l0_0.length c0_0, .int .i64 a0_1, .int .i64 a0_2] 24 (0, 0)) (by (with_reducible repeat (first | refine kn' ?_ _ | refine kd' ?_ | refine ka' ?_ _)); exact BK242.out)) : gb242 ≠ gb243)); have n6_ := am' ((by rw [hg]; exact Nat.ne_of_gt (blk_lt (g := gb242) (o := .cells #[.slice A0_0 l0_0.length c0_0, .int .i64 a0_1, .int .i64 a0_2] 24 (0, 0)) (by (with_reducible repeat (first | refine kn' ?_ _ | refine kd' ?_ | refine ka' ?_ _)); exact BK242.out)) : gb243 ≠ gb242)); clear BK242; clear HB; have BK242 := n0_; have HB := n1_; have BK243 := n2_; have GW243 := n3_; have GE243 := n4_; have NB242_243 := n5_; have NB243_242 := n6_; clear n0_ n1_ n2_ n3_ n4_ n5_ n6_; clear hb hbox hg; have hnb8 := NB242_243.out; have hnc8 := NB243_242.out; have hcz9_0 : w7.cell? ⟨gb242, 0, none⟩ = some (.slice A0_0 l0_0.length c0_0) := (blk_cell BK242.out 0).trans rfl; have hcz9_1 : w7.cell? ⟨gb242, 1, none⟩ = some (.int .i64 a0_1) := (blk_cell BK242.out 1).trans rfl; have hcz9_2 : w7.cell? ⟨gb242, 2, none⟩ = some (.int .i64 a0_2) := (blk_cell BK242.out 2).trans rfl; have hfz9_0 := blk_frozen BK242.out 0; have hfz9_1 := blk_frozen BK242.out 1; have hfz9_2 := blk_frozen BK242.out 2) | ((with_reducible refine gate_callee (f := 15) rfl ?_); refine goesL_ (some 17) rfl rfl Try.func15 (by kernel_rfl) rfl #[.agg #[.slice A0_0 l0_0.length c0_0, .int .i64 a0_1, .int .i64 a0_2], .int .i64 1048576] rfl (by (try simp only [List.map_toArray, List.map_cons, List.map_nil]); first | done | rfl | (simp only [List.length_drop, List.length_take]; rfl)) ?_; (with_reducible refine (laws_szNight.calls _ _ l0_0 a0_1 a0_2 1048576 t244 _ ?side1 ?side2 A4.out).mono ?_); (case side1 => repeat (first | exact (Kd.C_below HR0_0.out HB.out) | (with_reducible refine ca' ?_ _) | (with_reducible refine cn' ?_ _) | (with_reducible refine cd' ?_))); (case side2 => exact HC0_0.out); rintro e w10 ⟨rfl, hb⟩; refine ⟨_, rfl, ?_⟩; have n0_ := am' (blk_below (g := gb242) (o := .cells #[.slice A0_0 l0_0.length c0_0, .int .i64 a0_1, .int .i64 a0_2] 24 (0, 0)) (by (with_reducible repeat (first | refine kn' ?_ _ | refine kd' ?_ | refine ka' ?_ _)); exact BK242.out) hb); have n1_ := am' (blk_below (g := gb243) (o := .cells #[.slice A1_0 l1_0.length c1_0, .int .i64 a1_1] 45 (0, 0)) (by (with_reducible repeat (first | refine kn' ?_ _ | refine kd' ?_ | refine ka' ?_ _)); exact BK243.out) hb); have n2_ := am' (below_step (by repeat (first | (with_reducible first | exact HB.out | apply ba' | apply bd' | apply be' | refine bs' ?_ GE242.out | refine bs' ?_ GE243.out) | exact HB.out)) hb); clear BK242; clear BK243; clear HB; have BK242 := n0_; have BK243 := n1_; have HB := n2_; clear n0_ n1_ n2_; (try clear hb); (try clear hb2); (try clear hk); (try clear hi)))
 (try simp only [Act.put, sa', sb', sc'])
 go_cut [] (fun wc => ∃ (kq : Nat), Aside0 (laws_FnExactCanRound.j0 kq l2 t244 l0_0 a0_1 a0_2 l1_0 a1_1 = some r) ∧ Aside0 (kq ≤ k) ∧ Aside0 (wc.heap[gb242]? = some (.cells #[(.slice A0_0 l0_0.length c0_0), .int .i64 a0_1, .int .i64 a0_2] 24 (0, 0))) ∧ Aside0 (wc.heap[gb243]? = some (.cells #[(.slice A1_0 l1_0.length c1_0), .int .i64 a1_1] 45 (0, 0))) ∧ Aside0 (Below w.heap.size w wc))
 case first =>
  have H := HC5.out
  clear HC5; by_cases c11 : t244 < 0
  ·
   rw [if_pos c11] at H; have c11b0 : decide (t244 < 0) = true := decide_eq_true c11
   clear c11; (first | rw [c11b0] | (simp only [i64_w, i32_w]; rw [c11b0]) | skip)
   obtain rfl := Option.some.inj H
   go_wp2
   go_ret
   exact ⟨by first | rfl | (simp [errW_none, errW_some] <;> rfl) | (simp [*, errW_none, errW_some] <;> rfl), by repeat (first | (with_reducible first | exact HB.out | apply ba' | apply bd' | apply be' | refine bs' ?_ GE242.out | refine bs' ?_ GE243.out) | exact HB.out)⟩
  ·
   rw [if_neg c11] at H; have c11b0 : decide (t244 < 0) = false := decide_eq_false c11
   clear c11; (first | rw [c11b0] | (simp only [i64_w, i32_w]; rw [c11b0]) | skip)
   have H' := am' H
   clear H; go_wp2
   go_meet
   case rel => exact ⟨_, H', ⟨by first | omega | exact Nat.le_refl _⟩, ⟨by (with_reducible repeat (first | refine kn' ?_ _ | refine kd' ?_ | refine ka' ?_ _)); exact BK242.out⟩, ⟨by (with_reducible repeat (first | refine kn' ?_ _ | refine kd' ?_ | refine ka' ?_ _)); exact BK243.out⟩, ⟨by repeat (first | (with_reducible first | exact HB.out | apply ba' | apply bd' | apply be' | refine bs' ?_ GE242.out | refine bs' ?_ GE243.out) | exact HB.out)⟩⟩
 case rest =>
  clear HC5; try clear c1
  try clear c2
  try clear p2
  try clear c5
  try clear c8
  try clear c11
  try clear c11b0
  try clear hcz9_0
  try clear hcz9_1
  try clear hcz9_2
  try clear hfz9_0
  try clear hfz9_1
  try clear hfz9_2
  obtain ⟨kq, HA, HJ4, BK242, BK243, HB⟩ := hcut
  cases kq with
  | zero => exact absurd HA.out (by simp [laws_FnExactCanRound.j0])
  | succ kj4 =>
   have H := HA.out
   clear HA; simp only [laws_FnExactCanRound.j0] at H
   replace H := Option.bind_eq_some_iff.mp H
   obtain ⟨t245, A120, H⟩ := H
   replace H : (if t245 < 0 then (some true) else (laws_FnExactCanRound.j1 kj4 l2 t245 l0_0 a0_1 a0_2 l1_0 a1_1)) = some r := H
   have A12 := am' A120
   clear A120; have HC13 := am' H
   clear H; have hnb14 := NB243_242.out
   have hnc14 := NB242_243.out
   have hcz15_0 : wc.cell? ⟨gb243, 0, none⟩ = some (.slice A1_0 l1_0.length c1_0) := (blk_cell BK243.out 0).trans rfl
   have hcz15_1 : wc.cell? ⟨gb243, 1, none⟩ = some (.int .i64 a1_1) := (blk_cell BK243.out 1).trans rfl
   have hfz15_0 := blk_frozen BK243.out 0
   have hfz15_1 := blk_frozen BK243.out 1
   go_upto_if 24 with (first | ((with_reducible refine gate_callee (f := 29) rfl ?_); refine goesL_ (some 22) rfl rfl Try.func29 (by kernel_rfl) rfl #[.agg #[.slice A1_0 l1_0.length c1_0, .int .i64 a1_1], .int .i64 t244] rfl (by (try simp only [List.map_toArray, List.map_cons, List.map_nil]); first | done | rfl | (simp only [List.length_drop, List.length_take]; rfl)) ?_; (with_reducible refine (laws_szCamp.calls _ _ l1_0 a1_1 t244 t245 _ ?side1 ?side2 A12.out).mono ?_); (case side1 => repeat (first | exact (Kd.C_below HR1_0.out HB.out) | (with_reducible refine ca' ?_ _) | (with_reducible refine cn' ?_ _) | (with_reducible refine cd' ?_))); (case side2 => exact HC1_0.out); rintro e w16 ⟨rfl, hb⟩; refine ⟨_, rfl, ?_⟩; have n0_ := am' (blk_below (g := gb242) (o := .cells #[.slice A0_0 l0_0.length c0_0, .int .i64 a0_1, .int .i64 a0_2] 24 (0, 0)) (by (with_reducible repeat (first | refine kn' ?_ _ | refine kd' ?_ | refine ka' ?_ _)); exact BK242.out) hb); have n1_ := am' (blk_below (g := gb243) (o := .cells #[.slice A1_0 l1_0.length c1_0, .int .i64 a1_1] 45 (0, 0)) (by (with_reducible repeat (first | refine kn' ?_ _ | refine kd' ?_ | refine ka' ?_ _)); exact BK243.out) hb); have n2_ := am' (below_step (by repeat (first | (with_reducible first | exact HB.out | apply ba' | apply bd' | apply be' | refine bs' ?_ GE242.out | refine bs' ?_ GE243.out) | exact HB.out)) hb); clear BK242; clear BK243; clear HB; have BK242 := n0_; have BK243 := n1_; have HB := n2_; clear n0_ n1_ n2_; (try clear hb); (try clear hb2); (try clear hk); (try clear hi)))
   (try simp only [Act.put, sa', sb', sc'])
   go_cut [] (fun wc => ∃ (kq : Nat), Aside0 (laws_FnExactCanRound.j1 kq l2 t245 l0_0 a0_1 a0_2 l1_0 a1_1 = some r) ∧ Aside0 (kq ≤ kj4) ∧ Aside0 (wc.heap[gb242]? = some (.cells #[(.slice A0_0 l0_0.length c0_0), .int .i64 a0_1, .int .i64 a0_2] 24 (0, 0))) ∧ Aside0 (wc.heap[gb243]? = some (.cells #[(.slice A1_0 l1_0.length c1_0), .int .i64 a1_1] 45 (0, 0))) ∧ Aside0 (Below w.heap.size w wc))
   case first =>
    have H := HC13.out
    clear HC13; by_cases c17 : t245 < 0
    ·
     rw [if_pos c17] at H; have c17b0 : decide (t245 < 0) = true := decide_eq_true c17
     clear c17; (first | rw [c17b0] | (simp only [i64_w, i32_w]; rw [c17b0]) | skip)
     obtain rfl := Option.some.inj H
     go_wp2
     go_ret
     exact ⟨by first | rfl | (simp [errW_none, errW_some] <;> rfl) | (simp [*, errW_none, errW_some] <;> rfl), by repeat (first | (with_reducible first | exact HB.out | apply ba' | apply bd' | apply be' | refine bs' ?_ GE242.out | refine bs' ?_ GE243.out) | exact HB.out)⟩
    ·
     rw [if_neg c17] at H; have c17b0 : decide (t245 < 0) = false := decide_eq_false c17
     clear c17; (first | rw [c17b0] | (simp only [i64_w, i32_w]; rw [c17b0]) | skip)
     have H' := am' H
     clear H; go_wp2
     go_meet
     case rel => exact ⟨_, H', ⟨by have := HJ4.out; first | omega | exact Nat.le_refl _⟩, ⟨by (with_reducible repeat (first | refine kn' ?_ _ | refine kd' ?_ | refine ka' ?_ _)); exact BK242.out⟩, ⟨by (with_reducible repeat (first | refine kn' ?_ _ | refine kd' ?_ | refine ka' ?_ _)); exact BK243.out⟩, ⟨by repeat (first | (with_reducible first | exact HB.out | apply ba' | apply bd' | apply be' | refine bs' ?_ GE242.out | refine bs' ?_ GE243.out) | exact HB.out)⟩⟩
   case rest =>
    clear HC13; try clear c1
    try clear c2
    try clear p2
    try clear c5
    try clear c8
    try clear c11
    try clear c11b0
    try clear c14
    try clear c15
    try clear c17
    try clear c17b0
    try clear hcz15_0
    try clear hcz15_1
    try clear hcz9_0
    try clear hcz9_1
    try clear hcz9_2
    try clear hfz15_0
    try clear hfz15_1
    try clear hfz9_0
    try clear hfz9_1
    try clear hfz9_2
    try clear p2
    obtain ⟨kq, HA, HJ12, BK242, BK243, HB⟩ := hcut
    cases kq with
    | zero => exact absurd HA.out (by simp [laws_FnExactCanRound.j1])
    | succ kj12 =>
     have H := HA.out
     clear HA; simp only [laws_FnExactCanRound.j1] at H
     replace H := Option.bind_eq_some_iff.mp H
     obtain ⟨t246, A180, H⟩ := H
     replace H : (if t246 < 0 then (some true) else (laws_FnExactCanRound.j2 kj12 l2 l0_0 a0_1 a0_2 l1_0 a1_1)) = some r := H
     have A18 := am' A180
     clear A180; have HC19 := am' H
     clear H; go_upto_if 29 with (first | ((with_reducible refine gate_callee (f := 24) rfl ?_); refine goesL_ (some 27) rfl rfl Try.func24 (by kernel_rfl) rfl #[.slice A2 l2.length c2, .int .i64 t245] rfl (by (try simp only [List.map_toArray, List.map_cons, List.map_nil]); first | done | rfl | (simp only [List.length_drop, List.length_take]; rfl)) ?_; (with_reducible refine (laws_szIntSS.calls kj12 _ _ l2 t245 t246 _ ?side1 ?side2 A18.out).mono ?_); (case side1 => repeat (first | exact (Kd.C_below HR2.out HB.out) | (with_reducible refine ca' ?_ _) | (with_reducible refine cn' ?_ _) | (with_reducible refine cd' ?_))); (case side2 => exact HC2.out); rintro e w' ⟨rfl, ⟨nd, rfl⟩⟩; refine ⟨_, rfl, ?_⟩))
     (try simp only [Act.put, sa', sb', sc'])
     go_cut [] (fun wc => ∃ (kq : Nat), Aside0 (laws_FnExactCanRound.j2 kq l2 l0_0 a0_1 a0_2 l1_0 a1_1 = some r) ∧ Aside0 (kq ≤ kj12) ∧ Aside0 (wc.heap[gb242]? = some (.cells #[(.slice A0_0 l0_0.length c0_0), .int .i64 a0_1, .int .i64 a0_2] 24 (0, 0))) ∧ Aside0 (wc.heap[gb243]? = some (.cells #[(.slice A1_0 l1_0.length c1_0), .int .i64 a1_1] 45 (0, 0))) ∧ Aside0 (Below w.heap.size w wc))
     case first =>
      have H := HC19.out
      clear HC19; by_cases c20 : t246 < 0
      ·
       rw [if_pos c20] at H; have c20b0 : decide (t246 < 0) = true := decide_eq_true c20
       clear c20; (first | rw [c20b0] | (simp only [i64_w, i32_w]; rw [c20b0]) | skip)
       obtain rfl := Option.some.inj H
       go_wp2
       go_ret
       exact ⟨by first | rfl | (simp [errW_none, errW_some] <;> rfl) | (simp [*, errW_none, errW_some] <;> rfl), by repeat (first | (with_reducible first | exact HB.out | apply ba' | apply bd' | apply be' | refine bs' ?_ GE242.out | refine bs' ?_ GE243.out) | exact HB.out)⟩
      ·
       rw [if_neg c20] at H; have c20b0 : decide (t246 < 0) = false := decide_eq_false c20
       clear c20; (first | rw [c20b0] | (simp only [i64_w, i32_w]; rw [c20b0]) | skip)
       have H' := am' H
       clear H; go_wp2
       go_meet
       case rel => exact ⟨_, H', ⟨by have := HJ4.out; have := HJ12.out; first | omega | exact Nat.le_refl _⟩, ⟨by (with_reducible repeat (first | refine kn' ?_ _ | refine kd' ?_ | refine ka' ?_ _)); exact BK242.out⟩, ⟨by (with_reducible repeat (first | refine kn' ?_ _ | refine kd' ?_ | refine ka' ?_ _)); exact BK243.out⟩, ⟨by repeat (first | (with_reducible first | exact HB.out | apply ba' | apply bd' | apply be' | refine bs' ?_ GE242.out | refine bs' ?_ GE243.out) | exact HB.out)⟩⟩
     case rest =>
      clear HC19; try clear c1
      try clear c2
      try clear p2
      try clear c5
      try clear c8
      try clear c11
      try clear c11b0
      try clear c14
      try clear c15
      try clear c17
      try clear c17b0
      try clear c20
      try clear c20b0
      try clear hcz15_0
      try clear hcz15_1
      try clear hcz9_0
      try clear hcz9_1
      try clear hcz9_2
      try clear hfz15_0
      try clear hfz15_1
      try clear hfz9_0
      try clear hfz9_1
      try clear hfz9_2
      try clear p2
      obtain ⟨kq, HA, HJ18, BK242, BK243, HB⟩ := hcut
      cases kq with
      | zero => exact absurd HA.out (by simp [laws_FnExactCanRound.j2])
      | succ kj18 =>
       have H := HA.out
       clear HA; simp only [laws_FnExactCanRound.j2] at H
       replace H := Option.bind_eq_some_iff.mp H
       obtain ⟨⟨t247, t250, t251⟩, A210, H⟩ := H
       replace H : ((laws_toCamp.f kj18 l1_0 a1_1).bind fun bt252 => ((laws_toIntSS.f kj18 l2).bind fun t256 => ((spec_CanRound.f kj18 t247 t250 t251 bt252.1 bt252.2 t256).bind fun bt259 => ((laws_toNight.f kj18 l0_0 a0_1 a0_2).bind fun bt261 => ((laws_toCamp.f kj18 l1_0 a1_1).bind fun bt267 => ((laws_toIntSS.f kj18 l2).bind fun t272 => ((impl_CanRound.f kj18 bt261.1 bt261.2.1 bt261.2.2 bt267.1 bt267.2 t272).bind fun bt275 => (if (bt275.1 != bt259.1) = true then (laws_FnExactCanRound.j3 kj18 l2 t272 true l0_0 a0_1 a0_2 l1_0 a1_1 bt261.1 bt261.2.1 bt261.2.2 bt267.1 bt267.2) else (laws_FnExactCanRound.j3 kj18 l2 t272 (bt275.2 != bt259.2) l0_0 a0_1 a0_2 l1_0 a1_1 bt261.1 bt261.2.1 bt261.2.2 bt267.1 bt267.2))))))))) = some r := H
       have A21 := am' A210
       clear A210; replace H := Option.bind_eq_some_iff.mp H
       obtain ⟨⟨t252, t255⟩, A220, H⟩ := H
       replace H : ((laws_toIntSS.f kj18 l2).bind fun t256 => ((spec_CanRound.f kj18 t247 t250 t251 t252 t255 t256).bind fun bt259 => ((laws_toNight.f kj18 l0_0 a0_1 a0_2).bind fun bt261 => ((laws_toCamp.f kj18 l1_0 a1_1).bind fun bt267 => ((laws_toIntSS.f kj18 l2).bind fun t272 => ((impl_CanRound.f kj18 bt261.1 bt261.2.1 bt261.2.2 bt267.1 bt267.2 t272).bind fun bt275 => (if (bt275.1 != bt259.1) = true then (laws_FnExactCanRound.j3 kj18 l2 t272 true l0_0 a0_1 a0_2 l1_0 a1_1 bt261.1 bt261.2.1 bt261.2.2 bt267.1 bt267.2) else (laws_FnExactCanRound.j3 kj18 l2 t272 (bt275.2 != bt259.2) l0_0 a0_1 a0_2 l1_0 a1_1 bt261.1 bt261.2.1 bt261.2.2 bt267.1 bt267.2)))))))) = some r := H
       have A22 := am' A220
       clear A220; replace H := Option.bind_eq_some_iff.mp H
       obtain ⟨t256, A230, H⟩ := H
       replace H : ((spec_CanRound.f kj18 t247 t250 t251 t252 t255 t256).bind fun bt259 => ((laws_toNight.f kj18 l0_0 a0_1 a0_2).bind fun bt261 => ((laws_toCamp.f kj18 l1_0 a1_1).bind fun bt267 => ((laws_toIntSS.f kj18 l2).bind fun t272 => ((impl_CanRound.f kj18 bt261.1 bt261.2.1 bt261.2.2 bt267.1 bt267.2 t272).bind fun bt275 => (if (bt275.1 != bt259.1) = true then (laws_FnExactCanRound.j3 kj18 l2 t272 true l0_0 a0_1 a0_2 l1_0 a1_1 bt261.1 bt261.2.1 bt261.2.2 bt267.1 bt267.2) else (laws_FnExactCanRound.j3 kj18 l2 t272 (bt275.2 != bt259.2) l0_0 a0_1 a0_2 l1_0 a1_1 bt261.1 bt261.2.1 bt261.2.2 bt267.1 bt267.2))))))) = some r := H
       have A23 := am' A230
       clear A230; replace H := Option.bind_eq_some_iff.mp H
       obtain ⟨⟨t259, t260⟩, A240, H⟩ := H
       replace H : ((laws_toNight.f kj18 l0_0 a0_1 a0_2).bind fun bt261 => ((laws_toCamp.f kj18 l1_0 a1_1).bind fun bt267 => ((laws_toIntSS.f kj18 l2).bind fun t272 => ((impl_CanRound.f kj18 bt261.1 bt261.2.1 bt261.2.2 bt267.1 bt267.2 t272).bind fun bt275 => (if (bt275.1 != t259) = true then (laws_FnExactCanRound.j3 kj18 l2 t272 true l0_0 a0_1 a0_2 l1_0 a1_1 bt261.1 bt261.2.1 bt261.2.2 bt267.1 bt267.2) else (laws_FnExactCanRound.j3 kj18 l2 t272 (bt275.2 != t260) l0_0 a0_1 a0_2 l1_0 a1_1 bt261.1 bt261.2.1 bt261.2.2 bt267.1 bt267.2)))))) = some r := H
       have A24 := am' A240
       clear A240; replace H := Option.bind_eq_some_iff.mp H
       obtain ⟨⟨t261, t264, t265⟩, A250, H⟩ := H
       replace H : ((laws_toCamp.f kj18 l1_0 a1_1).bind fun bt267 => ((laws_toIntSS.f kj18 l2).bind fun t272 => ((impl_CanRound.f kj18 t261 t264 t265 bt267.1 bt267.2 t272).bind fun bt275 => (if (bt275.1 != t259) = true then (laws_FnExactCanRound.j3 kj18 l2 t272 true l0_0 a0_1 a0_2 l1_0 a1_1 t261 t264 t265 bt267.1 bt267.2) else (laws_FnExactCanRound.j3 kj18 l2 t272 (bt275.2 != t260) l0_0 a0_1 a0_2 l1_0 a1_1 t261 t264 t265 bt267.1 bt267.2))))) = some r := H
       have A25 := am' A250
       clear A250; replace H := Option.bind_eq_some_iff.mp H
       obtain ⟨⟨t267, t270⟩, A260, H⟩ := H
       replace H : ((laws_toIntSS.f kj18 l2).bind fun t272 => ((impl_CanRound.f kj18 t261 t264 t265 t267 t270 t272).bind fun bt275 => (if (bt275.1 != t259) = true then (laws_FnExactCanRound.j3 kj18 l2 t272 true l0_0 a0_1 a0_2 l1_0 a1_1 t261 t264 t265 t267 t270) else (laws_FnExactCanRound.j3 kj18 l2 t272 (bt275.2 != t260) l0_0 a0_1 a0_2 l1_0 a1_1 t261 t264 t265 t267 t270)))) = some r := H
       have A26 := am' A260
       clear A260; replace H := Option.bind_eq_some_iff.mp H
       obtain ⟨t272, A270, H⟩ := H
       replace H : ((impl_CanRound.f kj18 t261 t264 t265 t267 t270 t272).bind fun bt275 => (if (bt275.1 != t259) = true then (laws_FnExactCanRound.j3 kj18 l2 t272 true l0_0 a0_1 a0_2 l1_0 a1_1 t261 t264 t265 t267 t270) else (laws_FnExactCanRound.j3 kj18 l2 t272 (bt275.2 != t260) l0_0 a0_1 a0_2 l1_0 a1_1 t261 t264 t265 t267 t270))) = some r := H
       have A27 := am' A270
       clear A270; replace H := Option.bind_eq_some_iff.mp H
       obtain ⟨⟨t275, t276⟩, A280, H⟩ := H
       replace H : (if (t275 != t259) = true then (laws_FnExactCanRound.j3 kj18 l2 t272 true l0_0 a0_1 a0_2 l1_0 a1_1 t261 t264 t265 t267 t270) else (laws_FnExactCanRound.j3 kj18 l2 t272 (t276 != t260) l0_0 a0_1 a0_2 l1_0 a1_1 t261 t264 t265 t267 t270)) = some r := H
       have A28 := am' A280
       clear A280; have HC29 := am' H
       clear H; try go_wp2
       have n0_ := am' (kd' BK242.out)
       have n1_ := am' (kd' BK243.out)
       have n2_ := am' (be' HB.out)
       clear BK242; clear BK243; clear HB; have BK242 := n0_; have BK243 := n1_; have HB := n2_; clear n0_ n1_ n2_; refine start_ (n := 12) (S := fun w' => w'.cell? ⟨gb242, 0, none⟩ = some (.slice A0_0 l0_0.length c0_0) ∧ w'.cell? ⟨gb242, 1, none⟩ = some (.int .i64 a0_1) ∧ w'.cell? ⟨gb242, 2, none⟩ = some (.int .i64 a0_2) ∧ w'.cell? ⟨gb243, 0, none⟩ = some (.slice A1_0 l1_0.length c1_0) ∧ w'.cell? ⟨gb243, 1, none⟩ = some (.int .i64 a1_1)) (ds := []) #[false, false, false, false, false, false, false, false, false, false, false, false] (by kernel_rfl) rfl rfl ⟨(blk_cell BK242.out 0).trans rfl, (blk_cell BK242.out 1).trans rfl, (blk_cell BK242.out 2).trans rfl, (blk_cell BK243.out 0).trans rfl, (blk_cell BK243.out 1).trans rfl⟩ (fun hHeld => ?_); refine with_tabW laws_FnExactCanRound.tab11 laws_FnExactCanRound.bits11 (fun HT_ HW_ => ?_)
       generalize wc.drew = w30 at BK242 BK243 HB hHeld ⊢
       refine pure_ (i := 4) (N := some 35) (v := ?_) (a' := ?_) #[false, false, false, false, true, false, false, false, false, false, false, false] rfl rfl (any_of HT_.out (by kernel_rfl)) (fun _ _ _ h => h) (Or.inl ⟨by rfl, ?_⟩) ?_ ?_
       rotate_left
       ·
        intro w'; go_simp; with_reducible rfl
       rotate_left
       ·
        simp only [Act.put, sa', sb', sc', i64_w, i32_w]
        rfl
       refine take_ (i := 0) (N := some 31) (v := ?_) (a' := ?_) #[true, false, false, false, true, false, false, false, false, false, false, false] rfl rfl (take_ofW HT_.out HW_.out (by kernel_rfl)) (fun _ _ _ h => h) (Or.inl ⟨by rfl, ?_⟩) hHeld ?_ ?_
       rotate_left
       ·
        rintro w' ⟨s0, s1, s2, s3, s4⟩
        go_simp; with_reducible rfl
       rotate_left
       ·
        simp only [Act.put, sa', sb', sc', i64_w, i32_w]
        rfl
       refine take_ (i := 2) (N := some 33) (v := ?_) (a' := ?_) #[true, false, true, false, true, false, false, false, false, false, false, false] rfl rfl (take_ofW HT_.out HW_.out (by kernel_rfl)) (fun _ _ _ h => h) (Or.inl ⟨by rfl, ?_⟩) hHeld ?_ ?_
       rotate_left
       ·
        rintro w' ⟨s0, s1, s2, s3, s4⟩
        go_simp; with_reducible rfl
       rotate_left
       ·
        simp only [Act.put, sa', sb', sc', i64_w, i32_w]
        rfl
       refine one_ (i := 1) (N := some 32) #[true, true, true, false, true, false, false, false, false, false, false, false] rfl rfl (one_of HT_.out (by kernel_rfl)) (by decide) (fun K hK => ?_)
       refine goes_ Try.func17 (by kernel_rfl) rfl #[.agg #[.slice A0_0 l0_0.length c0_0, .int .i64 a0_1, .int .i64 a0_2]] (by rfl) rfl rfl (by (try simp only [List.map_toArray, List.map_cons, List.map_nil]); first | done | rfl | (simp only [List.length_drop, List.length_take]; rfl)) ?_
       with_reducible refine (laws_toNight.calls kj18 _ _ l0_0 a0_1 a0_2 t247 t250 t251 _ ?side1 ?side2 A21.out).mono ?_
       (case side1 => repeat (first | exact (Kd.C_below HR0_0.out HB.out) | (with_reducible refine ca' ?_ _) | (with_reducible refine cn' ?_ _) | (with_reducible refine cd' ?_)))
       (case side2 => exact HC0_0.out)
       rintro e w31 ⟨v248, rfl, ho0, hb⟩
       refine ⟨_, rfl, ?_⟩
       have n0_ := am' (Kd.R_lower ho0 (below_size (by repeat (first | (with_reducible first | exact HB.out | apply ba' | apply bd' | apply be' | refine bs' ?_ GE242.out | refine bs' ?_ GE243.out) | exact HB.out))))
       have n1_ := am' (blk_below (g := gb242) (o := .cells #[.slice A0_0 l0_0.length c0_0, .int .i64 a0_1, .int .i64 a0_2] 24 (0, 0)) (by (with_reducible repeat (first | refine kn' ?_ _ | refine kd' ?_ | refine ka' ?_ _)); exact BK242.out) hb)
       have n2_ := am' (blk_below (g := gb243) (o := .cells #[.slice A1_0 l1_0.length c1_0, .int .i64 a1_1] 45 (0, 0)) (by (with_reducible repeat (first | refine kn' ?_ _ | refine kd' ?_ | refine ka' ?_ _)); exact BK243.out) hb)
       have n3_ := am' (below_step (by repeat (first | (with_reducible first | exact HB.out | apply ba' | apply bd' | apply be' | refine bs' ?_ GE242.out | refine bs' ?_ GE243.out) | exact HB.out)) hb)
       clear BK242; clear BK243; clear HB; have HO249 := n0_; have BK242 := n1_; have BK243 := n2_; have HB := n3_; clear n0_ n1_ n2_ n3_; (try clear hb)
       (try clear hb2)
       (try clear hk)
       (try clear hi)
       (try clear ho0)
       refine hK.out _ _ ⟨(blk_cell BK242.out 0).trans rfl, (blk_cell BK242.out 1).trans rfl, (blk_cell BK242.out 2).trans rfl, (blk_cell BK243.out 0).trans rfl, (blk_cell BK243.out 1).trans rfl⟩ (fun hHeld => ?_)
       clear hK K; refine norm_ (a' := ?_) ?_ ?_
       rotate_left
       ·
        show Act.put _ (some 32) _ = _
        simp only [Act.put, sa', sb', sc', i64_w, i32_w]
        rfl
       refine one_ (i := 3) (N := some 34) #[true, true, true, true, true, false, false, false, false, false, false, false] rfl rfl (one_of HT_.out (by kernel_rfl)) (by decide) (fun K hK => ?_)
       refine goes_ Try.func31 (by kernel_rfl) rfl #[.agg #[.slice A1_0 l1_0.length c1_0, .int .i64 a1_1]] (by rfl) rfl rfl (by (try simp only [List.map_toArray, List.map_cons, List.map_nil]); first | done | rfl | (simp only [List.length_drop, List.length_take]; rfl)) ?_
       with_reducible refine (laws_toCamp.calls kj18 _ _ l1_0 a1_1 t252 t255 _ ?side1 ?side2 A22.out).mono ?_
       (case side1 => repeat (first | exact (Kd.C_below HR1_0.out HB.out) | (with_reducible refine ca' ?_ _) | (with_reducible refine cn' ?_ _) | (with_reducible refine cd' ?_)))
       (case side2 => exact HC1_0.out)
       rintro e w32 ⟨v253, rfl, ho0, hb⟩
       refine ⟨_, rfl, ?_⟩
       have n0_ := am' (Kd.R_below (by (with_reducible repeat (first | apply ra' | apply rn' | apply rw')); exact HO249.out) hb)
       have n1_ := am' (Kd.R_lower ho0 (below_size (by repeat (first | (with_reducible first | exact HB.out | apply ba' | apply bd' | apply be' | refine bs' ?_ GE242.out | refine bs' ?_ GE243.out) | exact HB.out))))
       have n2_ := am' (blk_below (g := gb242) (o := .cells #[.slice A0_0 l0_0.length c0_0, .int .i64 a0_1, .int .i64 a0_2] 24 (0, 0)) (by (with_reducible repeat (first | refine kn' ?_ _ | refine kd' ?_ | refine ka' ?_ _)); exact BK242.out) hb)
       have n3_ := am' (blk_below (g := gb243) (o := .cells #[.slice A1_0 l1_0.length c1_0, .int .i64 a1_1] 45 (0, 0)) (by (with_reducible repeat (first | refine kn' ?_ _ | refine kd' ?_ | refine ka' ?_ _)); exact BK243.out) hb)
       have n4_ := am' (below_step (by repeat (first | (with_reducible first | exact HB.out | apply ba' | apply bd' | apply be' | refine bs' ?_ GE242.out | refine bs' ?_ GE243.out) | exact HB.out)) hb)
       clear HO249; clear BK242; clear BK243; clear HB; have HO249 := n0_; have HO254 := n1_; have BK242 := n2_; have BK243 := n3_; have HB := n4_; clear n0_ n1_ n2_ n3_ n4_; (try clear hb)
       (try clear hb2)
       (try clear hk)
       (try clear hi)
       (try clear ho0)
       refine hK.out _ _ ⟨(blk_cell BK242.out 0).trans rfl, (blk_cell BK242.out 1).trans rfl, (blk_cell BK242.out 2).trans rfl, (blk_cell BK243.out 0).trans rfl, (blk_cell BK243.out 1).trans rfl⟩ (fun hHeld => ?_)
       clear hK K; refine norm_ (a' := ?_) ?_ ?_
       rotate_left
       ·
        show Act.put _ (some 34) _ = _
        simp only [Act.put, sa', sb', sc', i64_w, i32_w]
        rfl
       refine one_ (i := 5) (N := some 36) #[true, true, true, true, true, true, false, false, false, false, false, false] rfl rfl (one_of HT_.out (by kernel_rfl)) (by decide) (fun K hK => ?_)
       refine goes_ Try.func26 (by kernel_rfl) rfl #[.slice A2 l2.length c2] (by rfl) rfl rfl (by (try simp only [List.map_toArray, List.map_cons, List.map_nil]); first | done | rfl | (simp only [List.length_drop, List.length_take]; rfl)) ?_
       with_reducible refine (laws_toIntSS.calls kj18 _ _ l2 t256 _ ?side1 ?side2 A23.out).mono ?_
       (case side1 => repeat (first | exact (Kd.C_below HR2.out HB.out) | (with_reducible refine ca' ?_ _) | (with_reducible refine cn' ?_ _) | (with_reducible refine cd' ?_)))
       (case side2 => exact HC2.out)
       rintro e w33 ⟨v257, rfl, ho0, hb⟩
       refine ⟨_, rfl, ?_⟩
       have n0_ := am' (Kd.R_below (by (with_reducible repeat (first | apply ra' | apply rn' | apply rw')); exact HO249.out) hb)
       have n1_ := am' (Kd.R_below (by (with_reducible repeat (first | apply ra' | apply rn' | apply rw')); exact HO254.out) hb)
       have n2_ := am' (Kd.S_lower (Kd.S_new' ho0 (Kd.R_lt (by (with_reducible repeat (first | apply ra' | apply rn' | apply rw')); exact HO249.out))) (below_size (by repeat (first | (with_reducible first | exact HB.out | apply ba' | apply bd' | apply be' | refine bs' ?_ GE242.out | refine bs' ?_ GE243.out) | exact HB.out))))
       have n3_ := am' (blk_below (g := gb242) (o := .cells #[.slice A0_0 l0_0.length c0_0, .int .i64 a0_1, .int .i64 a0_2] 24 (0, 0)) (by (with_reducible repeat (first | refine kn' ?_ _ | refine kd' ?_ | refine ka' ?_ _)); exact BK242.out) hb)
       have n4_ := am' (blk_below (g := gb243) (o := .cells #[.slice A1_0 l1_0.length c1_0, .int .i64 a1_1] 45 (0, 0)) (by (with_reducible repeat (first | refine kn' ?_ _ | refine kd' ?_ | refine ka' ?_ _)); exact BK243.out) hb)
       have n5_ := am' (below_step (by repeat (first | (with_reducible first | exact HB.out | apply ba' | apply bd' | apply be' | refine bs' ?_ GE242.out | refine bs' ?_ GE243.out) | exact HB.out)) hb)
       clear HO249; clear HO254; clear BK242; clear BK243; clear HB; have HO249 := n0_; have HO254 := n1_; have HO258 := n2_; have BK242 := n3_; have BK243 := n4_; have HB := n5_; clear n0_ n1_ n2_ n3_ n4_ n5_; (try clear hb)
       (try clear hb2)
       (try clear hk)
       (try clear hi)
       (try clear ho0)
       obtain ⟨Ao34, co34, eo34⟩ := Kd.R_slice HO249.out
       (first | subst eo34 | (injection eo34 with f1_ f2_ f3_; have f4_ := f1_.symm; have f5_ := f3_.symm; clear f1_ f2_ f3_; subst f4_; subst f5_))
       obtain ⟨Ao35, co35, eo35⟩ := Kd.R_slice HO254.out
       (first | subst eo35 | (injection eo35 with f1_ f2_ f3_; have f4_ := f1_.symm; have f5_ := f3_.symm; clear f1_ f2_ f3_; subst f4_; subst f5_))
       obtain ⟨Ao36, co36, eo36⟩ := Kd.S_slice HO258.out
       (first | subst eo36 | (injection eo36 with f1_ f2_ f3_; have f4_ := f1_.symm; have f5_ := f3_.symm; clear f1_ f2_ f3_; subst f4_; subst f5_))
       refine hK.out _ _ ⟨(blk_cell BK242.out 0).trans rfl, (blk_cell BK242.out 1).trans rfl, (blk_cell BK242.out 2).trans rfl, (blk_cell BK243.out 0).trans rfl, (blk_cell BK243.out 1).trans rfl⟩ (fun hHeld => ?_)
       clear hK K; refine norm_ (a' := ?_) ?_ ?_
       rotate_left
       ·
        show Act.put _ (some 36) _ = _
        simp only [Act.put, sa', sb', sc', i64_w, i32_w]
        rfl
       refine one_ (i := 6) (N := some 37) #[true, true, true, true, true, true, true, false, false, false, false, false] rfl rfl (one_of HT_.out (by kernel_rfl)) (by decide) (fun K hK => ?_)
       refine goes_ Try.func30 (by kernel_rfl) rfl #[.agg #[.slice Ao34 t247.length co34, .int .i64 t250, .int .i64 t251], .agg #[.slice Ao35 t252.length co35, .int .i64 t255], .slice Ao36 t256.length co36] (by rfl) rfl rfl (by (try simp only [List.map_toArray, List.map_cons, List.map_nil]); first | done | rfl | (simp only [List.length_drop, List.length_take]; rfl)) ?_
       with_reducible refine (spec_CanRound.calls kj18 _ _ t247 t250 t251 _ _ t252 t255 _ _ t256 t259 t260 _ ?side1 ?side2 ?side3 ?side4 ?side5 ?side6 A24.out).mono ?_
       (case side1 => repeat (first | exact (Kd.R_reads' HO249.out).2.2 | (with_reducible refine ca' ?_ _) | (with_reducible refine cn' ?_ _) | (with_reducible refine cd' ?_)))
       (case side2 => exact (Kd.R_reads' HO249.out).2.1)
       (case side3 => repeat (first | exact (Kd.R_reads' HO254.out).2.2 | (with_reducible refine ca' ?_ _) | (with_reducible refine cn' ?_ _) | (with_reducible refine cd' ?_)))
       (case side4 => exact (Kd.R_reads' HO254.out).2.1)
       (case side5 => repeat (first | exact (Kd.S_reads' HO258.out).2.2 | (with_reducible refine ca' ?_ _) | (with_reducible refine cn' ?_ _) | (with_reducible refine cd' ?_)))
       (case side6 => exact (Kd.S_reads' HO258.out).2.1)
       rintro e w37 ⟨rfl, hb⟩
       refine ⟨_, rfl, ?_⟩
       have n0_ := am' (Kd.R_below (by (with_reducible repeat (first | apply ra' | apply rn' | apply rw')); exact HO249.out) hb)
       have n1_ := am' (Kd.R_below (by (with_reducible repeat (first | apply ra' | apply rn' | apply rw')); exact HO254.out) hb)
       have n2_ := am' (Kd.S_below (by (with_reducible repeat (first | apply Kd.S_alloc | apply Kd.S_drewN | apply Kd.S_drew)); exact HO258.out) hb)
       have n3_ := am' (blk_below (g := gb242) (o := .cells #[.slice A0_0 l0_0.length c0_0, .int .i64 a0_1, .int .i64 a0_2] 24 (0, 0)) (by (with_reducible repeat (first | refine kn' ?_ _ | refine kd' ?_ | refine ka' ?_ _)); exact BK242.out) hb)
       have n4_ := am' (blk_below (g := gb243) (o := .cells #[.slice A1_0 l1_0.length c1_0, .int .i64 a1_1] 45 (0, 0)) (by (with_reducible repeat (first | refine kn' ?_ _ | refine kd' ?_ | refine ka' ?_ _)); exact BK243.out) hb)
       have n5_ := am' (below_step (by repeat (first | (with_reducible first | exact HB.out | apply ba' | apply bd' | apply be' | refine bs' ?_ GE242.out | refine bs' ?_ GE243.out) | exact HB.out)) hb)
       clear HO249; clear HO254; clear HO258; clear BK242; clear BK243; clear HB; have HO249 := n0_; have HO254 := n1_; have HO258 := n2_; have BK242 := n3_; have BK243 := n4_; have HB := n5_; clear n0_ n1_ n2_ n3_ n4_ n5_; (try clear hb)
       (try clear hb2)
       (try clear hk)
       (try clear hi)
       refine hK.out _ _ ⟨(blk_cell BK242.out 0).trans rfl, (blk_cell BK242.out 1).trans rfl, (blk_cell BK242.out 2).trans rfl, (blk_cell BK243.out 0).trans rfl, (blk_cell BK243.out 1).trans rfl⟩ (fun hHeld => ?_)
       clear hK K; refine norm_ (a' := ?_) ?_ ?_
       rotate_left
       ·
        show Act.put _ (some 37) _ = _
        simp only [Act.put, sa', sb', sc', i64_w, i32_w]
        rfl
       refine pure_ (i := 7) (N := some 30) (v := ?_) (a' := ?_) #[true, true, true, true, true, true, true, true, false, false, false, false] rfl rfl (any_of HT_.out (by kernel_rfl)) (fun _ _ _ h => h) (Or.inl ⟨by rfl, ?_⟩) ?_ ?_
       rotate_left
       ·
        intro w'; go_simp; with_reducible rfl
       rotate_left
       ·
        simp only [Act.put, sa', sb', sc', i64_w, i32_w]
        rfl
       refine pure_ (i := 8) (N := some 38) (v := ?_) (a' := ?_) #[true, true, true, true, true, true, true, true, true, false, false, false] rfl rfl (any_of HT_.out (by kernel_rfl)) (fun _ _ _ h => h) (Or.inl ⟨by rfl, ?_⟩) ?_ ?_
       rotate_left
       ·
        intro w'; go_simp; with_reducible rfl
       rotate_left
       ·
        simp only [Act.put, sa', sb', sc', i64_w, i32_w]
        rfl
       refine pure_ (i := 9) (N := some 39) (v := ?_) (a' := ?_) #[true, true, true, true, true, true, true, true, true, true, false, false] rfl rfl (any_of HT_.out (by kernel_rfl)) (fun _ _ _ h => h) (Or.inl ⟨by rfl, ?_⟩) ?_ ?_
       rotate_left
       ·
        intro w'; go_simp; with_reducible rfl
       rotate_left
       ·
        simp only [Act.put, sa', sb', sc', i64_w, i32_w]
        rfl
       refine pure_ (i := 10) (N := some 8) (v := ?_) (a' := ?_) #[true, true, true, true, true, true, true, true, true, true, true, false] rfl rfl (any_of HT_.out (by kernel_rfl)) (fun _ _ _ h => h) (Or.inl ⟨by rfl, ?_⟩) ?_ ?_
       rotate_left
       ·
        intro w'; go_simp; with_reducible rfl
       rotate_left
       ·
        simp only [Act.put, sa', sb', sc', i64_w, i32_w]
        rfl
       refine pure_ (i := 11) (N := some 9) (v := ?_) (a' := ?_) #[true, true, true, true, true, true, true, true, true, true, true, true] rfl rfl (any_of HT_.out (by kernel_rfl)) (fun _ _ _ h => h) (Or.inl ⟨by rfl, ?_⟩) ?_ ?_
       rotate_left
       ·
        intro w'; go_simp; with_reducible rfl
       rotate_left
       ·
        simp only [Act.put, sa', sb', sc', i64_w, i32_w]
        rfl
       refine done_ (done_of HT_.out (by kernel_rfl)) ?_
       have hnb38 := NB242_243.out
       have hnc38 := NB243_242.out
       have hcz39_0 : w37.cell? ⟨gb242, 0, none⟩ = some (.slice A0_0 l0_0.length c0_0) := (blk_cell BK242.out 0).trans rfl
       have hcz39_1 : w37.cell? ⟨gb242, 1, none⟩ = some (.int .i64 a0_1) := (blk_cell BK242.out 1).trans rfl
       have hcz39_2 : w37.cell? ⟨gb242, 2, none⟩ = some (.int .i64 a0_2) := (blk_cell BK242.out 2).trans rfl
       have hfz39_0 := blk_frozen BK242.out 0
       have hfz39_1 := blk_frozen BK242.out 1
       have hfz39_2 := blk_frozen BK242.out 2
       go_upto_region 16 with (first | ((with_reducible refine gate_callee (f := 17) rfl ?_); refine goesL_ (some 41) rfl rfl Try.func17 (by kernel_rfl) rfl #[.agg #[.slice A0_0 l0_0.length c0_0, .int .i64 a0_1, .int .i64 a0_2]] rfl (by (try simp only [List.map_toArray, List.map_cons, List.map_nil]); first | done | rfl | (simp only [List.length_drop, List.length_take]; rfl)) ?_; (with_reducible refine (laws_toNight.calls kj18 _ _ l0_0 a0_1 a0_2 t261 t264 t265 _ ?side1 ?side2 A25.out).mono ?_); (case side1 => repeat (first | exact (Kd.C_below HR0_0.out HB.out) | (with_reducible refine ca' ?_ _) | (with_reducible refine cn' ?_ _) | (with_reducible refine cd' ?_))); (case side2 => exact HC0_0.out); rintro e w40 ⟨v262, rfl, ho0, hb⟩; refine ⟨_, rfl, ?_⟩; obtain ⟨D292_, hdl_, hdg_⟩ := dlt_of hb; have D292_lt := am' hdl_; have D292_ge := am' hdg_; clear hdl_ hdg_; have n0_ := am' (Kd.R_elder' (Kd.R_dlt (by (with_reducible repeat (first | apply ra' | apply rn' | apply rw')); exact HO249.out) D292_lt.out) (Kd.R_base ho0) hb); have n1_ := am' (Kd.R_below (Kd.R_dlt (by (with_reducible repeat (first | apply ra' | apply rn' | apply rw')); exact HO254.out) D292_lt.out) hb); have n2_ := am' (Kd.S_elder' (Kd.S_dlt (by (with_reducible repeat (first | apply Kd.S_alloc | apply Kd.S_drewN | apply Kd.S_drew)); exact HO258.out) D292_lt.out) (Kd.R_base ho0) hb); have n3_ := am' (Kd.R_lower (Kd.R_new' (Kd.R_dge ho0 D292_ge.out) (Kd.R_lt (by (with_reducible repeat (first | apply ra' | apply rn' | apply rw')); exact HO249.out))) (below_size (by repeat (first | (with_reducible first | exact HB.out | apply ba' | apply bd' | apply be' | refine bs' ?_ GE242.out | refine bs' ?_ GE243.out) | exact HB.out)))); have n4_ := am' (blk_below (g := gb242) (o := .cells #[.slice A0_0 l0_0.length c0_0, .int .i64 a0_1, .int .i64 a0_2] 24 (0, 0)) (by (with_reducible repeat (first | refine kn' ?_ _ | refine kd' ?_ | refine ka' ?_ _)); exact BK242.out) hb); have n5_ := am' (blk_below (g := gb243) (o := .cells #[.slice A1_0 l1_0.length c1_0, .int .i64 a1_1] 45 (0, 0)) (by (with_reducible repeat (first | refine kn' ?_ _ | refine kd' ?_ | refine ka' ?_ _)); exact BK243.out) hb); have n6_ := am' (below_step (by repeat (first | (with_reducible first | exact HB.out | apply ba' | apply bd' | apply be' | refine bs' ?_ GE242.out | refine bs' ?_ GE243.out) | exact HB.out)) hb); clear HO249; clear HO254; clear HO258; clear BK242; clear BK243; clear HB; have HO249 := n0_; have HO254 := n1_; have HO258 := n2_; have HO263 := n3_; have BK242 := n4_; have BK243 := n5_; have HB := n6_; clear n0_ n1_ n2_ n3_ n4_ n5_ n6_; (try clear hb); (try clear hb2); (try clear hk); (try clear hi); (try clear ho0)) | ((with_reducible refine gate_dst (N := 10) rfl ?_); refine box_event ?hg (N := 10) ?hd (cs := #[.slice none 0 0, .int .i64 0, .int .i64 0]) (t := 31) ?hr ?_; (case hd => rfl); (case hg => rfl); (case hr => first | (go_simp; done) | (go_simp; rfl)); intro gb266 hg w41 hbox hb; have n0_ := am' (Kd.R_below (by (with_reducible repeat (first | apply ra' | apply rn' | apply rw')); exact HO249.out) hb); have n1_ := am' (Kd.R_below (by (with_reducible repeat (first | apply ra' | apply rn' | apply rw')); exact HO254.out) hb); have n2_ := am' (Kd.S_below (by (with_reducible repeat (first | apply Kd.S_alloc | apply Kd.S_drewN | apply Kd.S_drew)); exact HO258.out) hb); have n3_ := am' (Kd.R_below (by (with_reducible repeat (first | apply ra' | apply rn' | apply rw')); exact HO263.out) hb); have n4_ := am' (blk_below (g := gb242) (o := .cells #[.slice A0_0 l0_0.length c0_0, .int .i64 a0_1, .int .i64 a0_2] 24 (0, 0)) (by (with_reducible repeat (first | refine kn' ?_ _ | refine kd' ?_ | refine ka' ?_ _)); exact BK242.out) hb); have n5_ := am' (blk_below (g := gb243) (o := .cells #[.slice A1_0 l1_0.length c1_0, .int .i64 a1_1] 45 (0, 0)) (by (with_reducible repeat (first | refine kn' ?_ _ | refine kd' ?_ | refine ka' ?_ _)); exact BK243.out) hb); have n6_ := am' (below_step (by repeat (first | (with_reducible first | exact HB.out | apply ba' | apply bd' | apply be' | refine bs' ?_ GE242.out | refine bs' ?_ GE243.out) | exact HB.out)) hb); have n7_ := am' (hbox); have n8_ := am' ((by rw [hg]; exact (below_size (by repeat (first | (with_reducible first | exact HB.out | apply ba' | apply bd' | apply be' | refine bs' ?_ GE242.out | refine bs' ?_ GE243.out) | exact HB.out))) : w.heap.size ≤ gb266)); have n9_ := am' ((by rw [hg]; exact (below_size (by repeat (first | (with_reducible first | exact HB.out | apply ba' | apply bd' | apply be' | refine bs' ?_ GE242.out | refine bs' ?_ GE243.out) | exact HB.out))) : w.heap.size ≤ gb266)); have n10_ := am' ((by rw [hg]; exact Nat.ne_of_lt (blk_lt (g := gb242) (o := .cells #[.slice A0_0 l0_0.length c0_0, .int .i64 a0_1, .int .i64 a0_2] 24 (0, 0)) (by (with_reducible repeat (first | refine kn' ?_ _ | refine kd' ?_ | refine ka' ?_ _)); exact BK242.out)) : gb242 ≠ gb266)); have n11_ := am' ((by rw [hg]; exact Nat.ne_of_gt (blk_lt (g := gb242) (o := .cells #[.slice A0_0 l0_0.length c0_0, .int .i64 a0_1, .int .i64 a0_2] 24 (0, 0)) (by (with_reducible repeat (first | refine kn' ?_ _ | refine kd' ?_ | refine ka' ?_ _)); exact BK242.out)) : gb266 ≠ gb242)); have n12_ := am' ((by rw [hg]; exact Nat.ne_of_lt (blk_lt (g := gb243) (o := .cells #[.slice A1_0 l1_0.length c1_0, .int .i64 a1_1] 45 (0, 0)) (by (with_reducible repeat (first | refine kn' ?_ _ | refine kd' ?_ | refine ka' ?_ _)); exact BK243.out)) : gb243 ≠ gb266)); have n13_ := am' ((by rw [hg]; exact Nat.ne_of_gt (blk_lt (g := gb243) (o := .cells #[.slice A1_0 l1_0.length c1_0, .int .i64 a1_1] 45 (0, 0)) (by (with_reducible repeat (first | refine kn' ?_ _ | refine kd' ?_ | refine ka' ?_ _)); exact BK243.out)) : gb266 ≠ gb243)); clear HO249; clear HO254; clear HO258; clear HO263; clear BK242; clear BK243; clear HB; have HO249 := n0_; have HO254 := n1_; have HO258 := n2_; have HO263 := n3_; have BK242 := n4_; have BK243 := n5_; have HB := n6_; have BK266 := n7_; have GW266 := n8_; have GE266 := n9_; have NB242_266 := n10_; have NB266_242 := n11_; have NB243_266 := n12_; have NB266_243 := n13_; clear n0_ n1_ n2_ n3_ n4_ n5_ n6_ n7_ n8_ n9_ n10_ n11_ n12_ n13_; clear hb hbox hg; obtain ⟨Ao42, co42, eo42⟩ := Kd.R_slice HO263.out; subst eo42; have hnb43 := NB266_242.out; have hnc43 := NB242_266.out; have hnb44 := NB266_243.out; have hnc44 := NB243_266.out; have hcz45_0 : w41.cell? ⟨gb266, 0, none⟩ = some (.slice none 0 0) := (blk_cell BK266.out 0).trans rfl; have hcz45_1 : w41.cell? ⟨gb266, 1, none⟩ = some (.int .i64 0) := (blk_cell BK266.out 1).trans rfl; have hcz45_2 : w41.cell? ⟨gb266, 2, none⟩ = some (.int .i64 0) := (blk_cell BK266.out 2).trans rfl; have hfz45_0 := blk_frozen BK266.out 0; have hfz45_1 := blk_frozen BK266.out 1; have hfz45_2 := blk_frozen BK266.out 2; have hcz46_0 : w41.cell? ⟨gb243, 0, none⟩ = some (.slice A1_0 l1_0.length c1_0) := (blk_cell BK243.out 0).trans rfl; have hcz46_1 : w41.cell? ⟨gb243, 1, none⟩ = some (.int .i64 a1_1) := (blk_cell BK243.out 1).trans rfl; have hfz46_0 := blk_frozen BK243.out 0; have hfz46_1 := blk_frozen BK243.out 1) | ((with_reducible refine gate_callee (f := 31) rfl ?_); refine goesL_ (some 43) rfl rfl Try.func31 (by kernel_rfl) rfl #[.agg #[.slice A1_0 l1_0.length c1_0, .int .i64 a1_1]] rfl (by (try simp only [List.map_toArray, List.map_cons, List.map_nil]); first | done | rfl | (simp only [List.length_drop, List.length_take]; rfl)) ?_; (with_reducible refine (laws_toCamp.calls kj18 _ _ l1_0 a1_1 t267 t270 _ ?side1 ?side2 A26.out).mono ?_); (case side1 => exact Kd.C_below HR1_0.out (by repeat (first | (with_reducible first | exact HB.out | apply ba' | apply bd' | apply be' | refine bs' ?_ GE242.out | refine bs' ?_ GE243.out | refine bs' ?_ GE266.out) | exact HB.out))); (case side2 => exact HC1_0.out); rintro e w47 ⟨v268, rfl, ho0, hb⟩; refine ⟨_, rfl, ?_⟩; obtain ⟨D293_, hdl_, hdg_⟩ := dlt_of hb; have D293_lt := am' hdl_; have D293_ge := am' hdg_; clear hdl_ hdg_; have n0_ := am' (Kd.R_below (Kd.R_dlt (by (with_reducible repeat (first | apply ra' | apply rn' | apply rw')); exact (Kd.R_mono (Kd.R_far (p := ⟨gb266, 2, none⟩) (Kd.R_far (p := ⟨gb266, 1, none⟩) (Kd.R_far (p := ⟨gb266, 0, none⟩) (Kd.R_types HO249.out BK266.out (by decide)) (fun _ hk => hk.2) (.slice Ao42 t261.length co42)) (fun _ hk => hk.2) (.int .i64 t264)) (fun _ hk => hk.2) (.int .i64 t265)) (fun _ h_ => h_.1))) D293_lt.out) hb); have n1_ := am' (Kd.R_elder' (Kd.R_dlt (by (with_reducible repeat (first | apply ra' | apply rn' | apply rw')); exact (Kd.R_mono (Kd.R_far (p := ⟨gb266, 2, none⟩) (Kd.R_far (p := ⟨gb266, 1, none⟩) (Kd.R_far (p := ⟨gb266, 0, none⟩) (Kd.R_types HO254.out BK266.out (by decide)) (fun _ hk => hk.2) (.slice Ao42 t261.length co42)) (fun _ hk => hk.2) (.int .i64 t264)) (fun _ hk => hk.2) (.int .i64 t265)) (fun _ h_ => h_.1))) D293_lt.out) (Kd.R_base ho0) hb); have n2_ := am' (Kd.S_below (Kd.S_dlt (by (with_reducible repeat (first | apply Kd.S_alloc | apply Kd.S_drewN | apply Kd.S_drew)); exact (Kd.S_mono (Kd.S_far (p := ⟨gb266, 2, none⟩) (Kd.S_far (p := ⟨gb266, 1, none⟩) (Kd.S_far (p := ⟨gb266, 0, none⟩) (Kd.S_types HO258.out BK266.out (by decide)) (fun _ hk => hk.2) (.slice Ao42 t261.length co42)) (fun _ hk => hk.2) (.int .i64 t264)) (fun _ hk => hk.2) (.int .i64 t265)) (fun _ h_ => h_.1))) D293_lt.out) hb); have n3_ := am' (Kd.R_below (Kd.R_dlt (by (with_reducible repeat (first | apply ra' | apply rn' | apply rw')); exact (Kd.R_mono (Kd.R_far (p := ⟨gb266, 2, none⟩) (Kd.R_far (p := ⟨gb266, 1, none⟩) (Kd.R_far (p := ⟨gb266, 0, none⟩) (Kd.R_types HO263.out BK266.out (by decide)) (fun _ hk => hk.2) (.slice Ao42 t261.length co42)) (fun _ hk => hk.2) (.int .i64 t264)) (fun _ hk => hk.2) (.int .i64 t265)) (fun _ h_ => h_.1))) D293_lt.out) hb); have n4_ := am' (Kd.R_lower (Kd.R_new' (Kd.R_dge ho0 D293_ge.out) (Kd.R_lt (by (with_reducible repeat (first | apply ra' | apply rn' | apply rw')); exact (Kd.R_mono (Kd.R_far (p := ⟨gb266, 2, none⟩) (Kd.R_far (p := ⟨gb266, 1, none⟩) (Kd.R_far (p := ⟨gb266, 0, none⟩) (Kd.R_types HO254.out BK266.out (by decide)) (fun _ hk => hk.2) (.slice Ao42 t261.length co42)) (fun _ hk => hk.2) (.int .i64 t264)) (fun _ hk => hk.2) (.int .i64 t265)) (fun _ h_ => h_.1))))) (below_size (by repeat (first | (with_reducible first | exact HB.out | apply ba' | apply bd' | apply be' | refine bs' ?_ GE242.out | refine bs' ?_ GE243.out | refine bs' ?_ GE266.out) | exact HB.out)))); have n5_ := am' (blk_below (g := gb242) (o := .cells #[.slice A0_0 l0_0.length c0_0, .int .i64 a0_1, .int .i64 a0_2] 24 (0, 0)) (by (with_reducible repeat (first | refine kn' ?_ _ | refine kd' ?_ | refine ka' ?_ _)); refine blk_far ?_ NB242_266.out _; (with_reducible repeat (first | refine kn' ?_ _ | refine kd' ?_ | refine ka' ?_ _)); refine blk_far ?_ NB242_266.out _; (with_reducible repeat (first | refine kn' ?_ _ | refine kd' ?_ | refine ka' ?_ _)); refine blk_far ?_ NB242_266.out _; (with_reducible repeat (first | refine kn' ?_ _ | refine kd' ?_ | refine ka' ?_ _)); exact BK242.out) hb); have n6_ := am' (blk_below (g := gb243) (o := .cells #[.slice A1_0 l1_0.length c1_0, .int .i64 a1_1] 45 (0, 0)) (by (with_reducible repeat (first | refine kn' ?_ _ | refine kd' ?_ | refine ka' ?_ _)); refine blk_far ?_ NB243_266.out _; (with_reducible repeat (first | refine kn' ?_ _ | refine kd' ?_ | refine ka' ?_ _)); refine blk_far ?_ NB243_266.out _; (with_reducible repeat (first | refine kn' ?_ _ | refine kd' ?_ | refine ka' ?_ _)); refine blk_far ?_ NB243_266.out _; (with_reducible repeat (first | refine kn' ?_ _ | refine kd' ?_ | refine ka' ?_ _)); exact BK243.out) hb); have n7_ := am' (blk_below (g := gb266) (o := .cells #[.slice Ao42 t261.length co42, .int .i64 t264, .int .i64 t265] 31 (0, 0)) (by (with_reducible repeat (first | refine kn' ?_ _ | refine kd' ?_ | refine ka' ?_ _)); refine blk_put (cs := #[.slice Ao42 t261.length co42, .int .i64 t264, .int .i64 0]) ?_ 2 _ rfl; (with_reducible repeat (first | refine kn' ?_ _ | refine kd' ?_ | refine ka' ?_ _)); refine blk_put (cs := #[.slice Ao42 t261.length co42, .int .i64 0, .int .i64 0]) ?_ 1 _ rfl; (with_reducible repeat (first | refine kn' ?_ _ | refine kd' ?_ | refine ka' ?_ _)); refine blk_put (cs := #[.slice none 0 0, .int .i64 0, .int .i64 0]) ?_ 0 _ rfl; (with_reducible repeat (first | refine kn' ?_ _ | refine kd' ?_ | refine ka' ?_ _)); exact BK266.out) hb); have n8_ := am' (below_step (by repeat (first | (with_reducible first | exact HB.out | apply ba' | apply bd' | apply be' | refine bs' ?_ GE242.out | refine bs' ?_ GE243.out | refine bs' ?_ GE266.out) | exact HB.out)) hb); clear HO249; clear HO254; clear HO258; clear HO263; clear BK242; clear BK243; clear BK266; clear HB; have HO249 := n0_; have HO254 := n1_; have HO258 := n2_; have HO263 := n3_; have HO269 := n4_; have BK242 := n5_; have BK243 := n6_; have BK266 := n7_; have HB := n8_; clear n0_ n1_ n2_ n3_ n4_ n5_ n6_ n7_ n8_; (try clear hb); (try clear hb2); (try clear hk); (try clear hi); (try clear ho0)) | ((with_reducible refine gate_dst (N := 11) rfl ?_); refine box_event ?hg (N := 11) ?hd (cs := #[.slice none 0 0, .int .i64 0]) (t := 28) ?hr ?_; (case hd => rfl); (case hg => rfl); (case hr => first | (go_simp; done) | (go_simp; rfl)); intro gb271 hg w48 hbox hb; have n0_ := am' (Kd.R_below (by (with_reducible repeat (first | apply ra' | apply rn' | apply rw')); exact HO249.out) hb); have n1_ := am' (Kd.R_below (by (with_reducible repeat (first | apply ra' | apply rn' | apply rw')); exact HO254.out) hb); have n2_ := am' (Kd.S_below (by (with_reducible repeat (first | apply Kd.S_alloc | apply Kd.S_drewN | apply Kd.S_drew)); exact HO258.out) hb); have n3_ := am' (Kd.R_below (by (with_reducible repeat (first | apply ra' | apply rn' | apply rw')); exact HO263.out) hb); have n4_ := am' (Kd.R_below (by (with_reducible repeat (first | apply ra' | apply rn' | apply rw')); exact HO269.out) hb); have n5_ := am' (blk_below (g := gb242) (o := .cells #[.slice A0_0 l0_0.length c0_0, .int .i64 a0_1, .int .i64 a0_2] 24 (0, 0)) (by (with_reducible repeat (first | refine kn' ?_ _ | refine kd' ?_ | refine ka' ?_ _)); exact BK242.out) hb); have n6_ := am' (blk_below (g := gb243) (o := .cells #[.slice A1_0 l1_0.length c1_0, .int .i64 a1_1] 45 (0, 0)) (by (with_reducible repeat (first | refine kn' ?_ _ | refine kd' ?_ | refine ka' ?_ _)); exact BK243.out) hb); have n7_ := am' (blk_below (g := gb266) (o := .cells #[.slice Ao42 t261.length co42, .int .i64 t264, .int .i64 t265] 31 (0, 0)) (by (with_reducible repeat (first | refine kn' ?_ _ | refine kd' ?_ | refine ka' ?_ _)); exact BK266.out) hb); have n8_ := am' (below_step (by repeat (first | (with_reducible first | exact HB.out | apply ba' | apply bd' | apply be' | refine bs' ?_ GE242.out | refine bs' ?_ GE243.out | refine bs' ?_ GE266.out) | exact HB.out)) hb); have n9_ := am' (hbox); have n10_ := am' ((by rw [hg]; exact (below_size (by repeat (first | (with_reducible first | exact HB.out | apply ba' | apply bd' | apply be' | refine bs' ?_ GE242.out | refine bs' ?_ GE243.out | refine bs' ?_ GE266.out) | exact HB.out))) : w.heap.size ≤ gb271)); have n11_ := am' ((by rw [hg]; exact (below_size (by repeat (first | (with_reducible first | exact HB.out | apply ba' | apply bd' | apply be' | refine bs' ?_ GE242.out | refine bs' ?_ GE243.out | refine bs' ?_ GE266.out) | exact HB.out))) : w.heap.size ≤ gb271)); have n12_ := am' ((by rw [hg]; exact Nat.ne_of_lt (blk_lt (g := gb242) (o := .cells #[.slice A0_0 l0_0.length c0_0, .int .i64 a0_1, .int .i64 a0_2] 24 (0, 0)) (by (with_reducible repeat (first | refine kn' ?_ _ | refine kd' ?_ | refine ka' ?_ _)); exact BK242.out)) : gb242 ≠ gb271)); have n13_ := am' ((by rw [hg]; exact Nat.ne_of_gt (blk_lt (g := gb242) (o := .cells #[.slice A0_0 l0_0.length c0_0, .int .i64 a0_1, .int .i64 a0_2] 24 (0, 0)) (by (with_reducible repeat (first | refine kn' ?_ _ | refine kd' ?_ | refine ka' ?_ _)); exact BK242.out)) : gb271 ≠ gb242)); have n14_ := am' ((by rw [hg]; exact Nat.ne_of_lt (blk_lt (g := gb243) (o := .cells #[.slice A1_0 l1_0.length c1_0, .int .i64 a1_1] 45 (0, 0)) (by (with_reducible repeat (first | refine kn' ?_ _ | refine kd' ?_ | refine ka' ?_ _)); exact BK243.out)) : gb243 ≠ gb271)); have n15_ := am' ((by rw [hg]; exact Nat.ne_of_gt (blk_lt (g := gb243) (o := .cells #[.slice A1_0 l1_0.length c1_0, .int .i64 a1_1] 45 (0, 0)) (by (with_reducible repeat (first | refine kn' ?_ _ | refine kd' ?_ | refine ka' ?_ _)); exact BK243.out)) : gb271 ≠ gb243)); have n16_ := am' ((by rw [hg]; exact Nat.ne_of_lt (blk_lt (g := gb266) (o := .cells #[.slice Ao42 t261.length co42, .int .i64 t264, .int .i64 t265] 31 (0, 0)) (by (with_reducible repeat (first | refine kn' ?_ _ | refine kd' ?_ | refine ka' ?_ _)); exact BK266.out)) : gb266 ≠ gb271)); have n17_ := am' ((by rw [hg]; exact Nat.ne_of_gt (blk_lt (g := gb266) (o := .cells #[.slice Ao42 t261.length co42, .int .i64 t264, .int .i64 t265] 31 (0, 0)) (by (with_reducible repeat (first | refine kn' ?_ _ | refine kd' ?_ | refine ka' ?_ _)); exact BK266.out)) : gb271 ≠ gb266)); clear HO249; clear HO254; clear HO258; clear HO263; clear HO269; clear BK242; clear BK243; clear BK266; clear HB; have HO249 := n0_; have HO254 := n1_; have HO258 := n2_; have HO263 := n3_; have HO269 := n4_; have BK242 := n5_; have BK243 := n6_; have BK266 := n7_; have HB := n8_; have BK271 := n9_; have GW271 := n10_; have GE271 := n11_; have NB242_271 := n12_; have NB271_242 := n13_; have NB243_271 := n14_; have NB271_243 := n15_; have NB266_271 := n16_; have NB271_266 := n17_; clear n0_ n1_ n2_ n3_ n4_ n5_ n6_ n7_ n8_ n9_ n10_ n11_ n12_ n13_ n14_ n15_ n16_ n17_; clear hb hbox hg; obtain ⟨Ao49, co49, eo49⟩ := Kd.R_slice HO269.out; subst eo49; have hnb50 := NB271_242.out; have hnc50 := NB242_271.out; have hnb51 := NB271_243.out; have hnc51 := NB243_271.out; have hnb52 := NB271_266.out; have hnc52 := NB266_271.out; have hcz53_0 : w48.cell? ⟨gb271, 0, none⟩ = some (.slice none 0 0) := (blk_cell BK271.out 0).trans rfl; have hcz53_1 : w48.cell? ⟨gb271, 1, none⟩ = some (.int .i64 0) := (blk_cell BK271.out 1).trans rfl; have hfz53_0 := blk_frozen BK271.out 0; have hfz53_1 := blk_frozen BK271.out 1) | ((with_reducible refine gate_callee (f := 26) rfl ?_); refine goesL_ (some 45) rfl rfl Try.func26 (by kernel_rfl) rfl #[.slice A2 l2.length c2] rfl (by (try simp only [List.map_toArray, List.map_cons, List.map_nil]); first | done | rfl | (simp only [List.length_drop, List.length_take]; rfl)) ?_; (with_reducible refine (laws_toIntSS.calls kj18 _ _ l2 t272 _ ?side1 ?side2 A27.out).mono ?_); (case side1 => exact Kd.C_below HR2.out (by repeat (first | (with_reducible first | exact HB.out | apply ba' | apply bd' | apply be' | refine bs' ?_ GE242.out | refine bs' ?_ GE243.out | refine bs' ?_ GE266.out | refine bs' ?_ GE271.out) | exact HB.out))); (case side2 => exact HC2.out); rintro e w54 ⟨v273, rfl, ho0, hb⟩; refine ⟨_, rfl, ?_⟩; obtain ⟨D294_, hdl_, hdg_⟩ := dlt_of hb; have D294_lt := am' hdl_; have D294_ge := am' hdg_; clear hdl_ hdg_; have n0_ := am' (Kd.R_below (Kd.R_dlt (by (with_reducible repeat (first | apply ra' | apply rn' | apply rw')); exact (Kd.R_mono (Kd.R_far (p := ⟨gb271, 1, none⟩) (Kd.R_far (p := ⟨gb271, 0, none⟩) (Kd.R_types HO249.out BK271.out (by decide)) (fun _ hk => hk.2) (.slice Ao49 t267.length co49)) (fun _ hk => hk.2) (.int .i64 t270)) (fun _ h_ => h_.1))) D294_lt.out) hb); have n1_ := am' (Kd.R_below (Kd.R_dlt (by (with_reducible repeat (first | apply ra' | apply rn' | apply rw')); exact (Kd.R_mono (Kd.R_far (p := ⟨gb271, 1, none⟩) (Kd.R_far (p := ⟨gb271, 0, none⟩) (Kd.R_types HO254.out BK271.out (by decide)) (fun _ hk => hk.2) (.slice Ao49 t267.length co49)) (fun _ hk => hk.2) (.int .i64 t270)) (fun _ h_ => h_.1))) D294_lt.out) hb); have n2_ := am' (Kd.S_elder' (Kd.S_dlt (by (with_reducible repeat (first | apply Kd.S_alloc | apply Kd.S_drewN | apply Kd.S_drew)); exact (Kd.S_mono (Kd.S_far (p := ⟨gb271, 1, none⟩) (Kd.S_far (p := ⟨gb271, 0, none⟩) (Kd.S_types HO258.out BK271.out (by decide)) (fun _ hk => hk.2) (.slice Ao49 t267.length co49)) (fun _ hk => hk.2) (.int .i64 t270)) (fun _ h_ => h_.1))) D294_lt.out) (Kd.S_base ho0) hb); have n3_ := am' (Kd.R_below (Kd.R_dlt (by (with_reducible repeat (first | apply ra' | apply rn' | apply rw')); exact (Kd.R_mono (Kd.R_far (p := ⟨gb271, 1, none⟩) (Kd.R_far (p := ⟨gb271, 0, none⟩) (Kd.R_types HO263.out BK271.out (by decide)) (fun _ hk => hk.2) (.slice Ao49 t267.length co49)) (fun _ hk => hk.2) (.int .i64 t270)) (fun _ h_ => h_.1))) D294_lt.out) hb); have n4_ := am' (Kd.R_below (Kd.R_dlt (by (with_reducible repeat (first | apply ra' | apply rn' | apply rw')); exact (Kd.R_mono (Kd.R_far (p := ⟨gb271, 1, none⟩) (Kd.R_far (p := ⟨gb271, 0, none⟩) (Kd.R_types HO269.out BK271.out (by decide)) (fun _ hk => hk.2) (.slice Ao49 t267.length co49)) (fun _ hk => hk.2) (.int .i64 t270)) (fun _ h_ => h_.1))) D294_lt.out) hb); have n5_ := am' (Kd.S_lower (Kd.S_new' (Kd.S_new' (Kd.S_new' (Kd.S_dge ho0 D294_ge.out) (Kd.R_lt (by (with_reducible repeat (first | apply ra' | apply rn' | apply rw')); exact (Kd.R_mono (Kd.R_far (p := ⟨gb271, 1, none⟩) (Kd.R_far (p := ⟨gb271, 0, none⟩) (Kd.R_types HO249.out BK271.out (by decide)) (fun _ hk => hk.2) (.slice Ao49 t267.length co49)) (fun _ hk => hk.2) (.int .i64 t270)) (fun _ h_ => h_.1))))) (Kd.S_lt (by (with_reducible repeat (first | apply Kd.S_alloc | apply Kd.S_drewN | apply Kd.S_drew)); exact (Kd.S_mono (Kd.S_far (p := ⟨gb271, 1, none⟩) (Kd.S_far (p := ⟨gb271, 0, none⟩) (Kd.S_types HO258.out BK271.out (by decide)) (fun _ hk => hk.2) (.slice Ao49 t267.length co49)) (fun _ hk => hk.2) (.int .i64 t270)) (fun _ h_ => h_.1))))) (Kd.R_lt (by (with_reducible repeat (first | apply ra' | apply rn' | apply rw')); exact (Kd.R_mono (Kd.R_far (p := ⟨gb271, 1, none⟩) (Kd.R_far (p := ⟨gb271, 0, none⟩) (Kd.R_types HO263.out BK271.out (by decide)) (fun _ hk => hk.2) (.slice Ao49 t267.length co49)) (fun _ hk => hk.2) (.int .i64 t270)) (fun _ h_ => h_.1))))) (below_size (by repeat (first | (with_reducible first | exact HB.out | apply ba' | apply bd' | apply be' | refine bs' ?_ GE242.out | refine bs' ?_ GE243.out | refine bs' ?_ GE266.out | refine bs' ?_ GE271.out) | exact HB.out)))); have n6_ := am' (blk_below (g := gb242) (o := .cells #[.slice A0_0 l0_0.length c0_0, .int .i64 a0_1, .int .i64 a0_2] 24 (0, 0)) (by (with_reducible repeat (first | refine kn' ?_ _ | refine kd' ?_ | refine ka' ?_ _)); refine blk_far ?_ NB242_271.out _; (with_reducible repeat (first | refine kn' ?_ _ | refine kd' ?_ | refine ka' ?_ _)); refine blk_far ?_ NB242_271.out _; (with_reducible repeat (first | refine kn' ?_ _ | refine kd' ?_ | refine ka' ?_ _)); exact BK242.out) hb); have n7_ := am' (blk_below (g := gb243) (o := .cells #[.slice A1_0 l1_0.length c1_0, .int .i64 a1_1] 45 (0, 0)) (by (with_reducible repeat (first | refine kn' ?_ _ | refine kd' ?_ | refine ka' ?_ _)); refine blk_far ?_ NB243_271.out _; (with_reducible repeat (first | refine kn' ?_ _ | refine kd' ?_ | refine ka' ?_ _)); refine blk_far ?_ NB243_271.out _; (with_reducible repeat (first | refine kn' ?_ _ | refine kd' ?_ | refine ka' ?_ _)); exact BK243.out) hb); have n8_ := am' (blk_below (g := gb266) (o := .cells #[.slice Ao42 t261.length co42, .int .i64 t264, .int .i64 t265] 31 (0, 0)) (by (with_reducible repeat (first | refine kn' ?_ _ | refine kd' ?_ | refine ka' ?_ _)); refine blk_far ?_ NB266_271.out _; (with_reducible repeat (first | refine kn' ?_ _ | refine kd' ?_ | refine ka' ?_ _)); refine blk_far ?_ NB266_271.out _; (with_reducible repeat (first | refine kn' ?_ _ | refine kd' ?_ | refine ka' ?_ _)); exact BK266.out) hb); have n9_ := am' (blk_below (g := gb271) (o := .cells #[.slice Ao49 t267.length co49, .int .i64 t270] 28 (0, 0)) (by (with_reducible repeat (first | refine kn' ?_ _ | refine kd' ?_ | refine ka' ?_ _)); refine blk_put (cs := #[.slice Ao49 t267.length co49, .int .i64 0]) ?_ 1 _ rfl; (with_reducible repeat (first | refine kn' ?_ _ | refine kd' ?_ | refine ka' ?_ _)); refine blk_put (cs := #[.slice none 0 0, .int .i64 0]) ?_ 0 _ rfl; (with_reducible repeat (first | refine kn' ?_ _ | refine kd' ?_ | refine ka' ?_ _)); exact BK271.out) hb); have n10_ := am' (below_step (by repeat (first | (with_reducible first | exact HB.out | apply ba' | apply bd' | apply be' | refine bs' ?_ GE242.out | refine bs' ?_ GE243.out | refine bs' ?_ GE266.out | refine bs' ?_ GE271.out) | exact HB.out)) hb); clear HO249; clear HO254; clear HO258; clear HO263; clear HO269; clear BK242; clear BK243; clear BK266; clear BK271; clear HB; have HO249 := n0_; have HO254 := n1_; have HO258 := n2_; have HO263 := n3_; have HO269 := n4_; have HO274 := n5_; have BK242 := n6_; have BK243 := n7_; have BK266 := n8_; have BK271 := n9_; have HB := n10_; clear n0_ n1_ n2_ n3_ n4_ n5_ n6_ n7_ n8_ n9_ n10_; (try clear hb); (try clear hb2); (try clear hk); (try clear hi); (try clear ho0); have hcz55_0 : w54.cell? ⟨gb266, 0, none⟩ = some (.slice Ao42 t261.length co42) := (blk_cell BK266.out 0).trans rfl; have hcz55_1 : w54.cell? ⟨gb266, 1, none⟩ = some (.int .i64 t264) := (blk_cell BK266.out 1).trans rfl; have hcz55_2 : w54.cell? ⟨gb266, 2, none⟩ = some (.int .i64 t265) := (blk_cell BK266.out 2).trans rfl; have hfz55_0 := blk_frozen BK266.out 0; have hfz55_1 := blk_frozen BK266.out 1; have hfz55_2 := blk_frozen BK266.out 2; have hcz56_0 : w54.cell? ⟨gb271, 0, none⟩ = some (.slice Ao49 t267.length co49) := (blk_cell BK271.out 0).trans rfl; have hcz56_1 : w54.cell? ⟨gb271, 1, none⟩ = some (.int .i64 t270) := (blk_cell BK271.out 1).trans rfl; have hfz56_0 := blk_frozen BK271.out 0; have hfz56_1 := blk_frozen BK271.out 1; obtain ⟨Ao57, co57, eo57⟩ := Kd.S_slice HO274.out; subst eo57) | ((with_reducible refine gate_callee (f := 32) rfl ?_); refine goesL_ (some 50) rfl rfl Try.func32 (by kernel_rfl) rfl #[.agg #[.slice Ao42 t261.length co42, .int .i64 t264, .int .i64 t265], .agg #[.slice Ao49 t267.length co49, .int .i64 t270], .slice Ao57 t272.length co57] rfl (by (try simp only [List.map_toArray, List.map_cons, List.map_nil]); first | done | rfl | (simp only [List.length_drop, List.length_take]; rfl)) ?_; (with_reducible refine (impl_CanRound.calls kj18 _ _ t261 t264 t265 _ _ t267 t270 _ _ t272 t275 t276 _ ?side1 ?side2 ?side3 ?side4 ?side5 ?side6 A28.out).mono ?_); (case side1 => repeat (first | exact (Kd.R_reads' HO263.out).2.2 | (with_reducible refine ca' ?_ _) | (with_reducible refine cn' ?_ _) | (with_reducible refine cd' ?_))); (case side2 => exact (Kd.R_reads' HO263.out).2.1); (case side3 => repeat (first | exact (Kd.R_reads' HO269.out).2.2 | (with_reducible refine ca' ?_ _) | (with_reducible refine cn' ?_ _) | (with_reducible refine cd' ?_))); (case side4 => exact (Kd.R_reads' HO269.out).2.1); (case side5 => repeat (first | exact (Kd.S_reads' HO274.out).2.2 | (with_reducible refine ca' ?_ _) | (with_reducible refine cn' ?_ _) | (with_reducible refine cd' ?_))); (case side6 => exact (Kd.S_reads' HO274.out).2.1); rintro e w58 ⟨rfl, hb⟩; refine ⟨_, rfl, ?_⟩; have n0_ := am' (Kd.R_below (by (with_reducible repeat (first | apply ra' | apply rn' | apply rw')); exact HO249.out) hb); have n1_ := am' (Kd.R_below (by (with_reducible repeat (first | apply ra' | apply rn' | apply rw')); exact HO254.out) hb); have n2_ := am' (Kd.S_below (by (with_reducible repeat (first | apply Kd.S_alloc | apply Kd.S_drewN | apply Kd.S_drew)); exact HO258.out) hb); have n3_ := am' (Kd.R_below (by (with_reducible repeat (first | apply ra' | apply rn' | apply rw')); exact HO263.out) hb); have n4_ := am' (Kd.R_below (by (with_reducible repeat (first | apply ra' | apply rn' | apply rw')); exact HO269.out) hb); have n5_ := am' (Kd.S_below (by (with_reducible repeat (first | apply Kd.S_alloc | apply Kd.S_drewN | apply Kd.S_drew)); exact HO274.out) hb); have n6_ := am' (blk_below (g := gb242) (o := .cells #[.slice A0_0 l0_0.length c0_0, .int .i64 a0_1, .int .i64 a0_2] 24 (0, 0)) (by (with_reducible repeat (first | refine kn' ?_ _ | refine kd' ?_ | refine ka' ?_ _)); exact BK242.out) hb); have n7_ := am' (blk_below (g := gb243) (o := .cells #[.slice A1_0 l1_0.length c1_0, .int .i64 a1_1] 45 (0, 0)) (by (with_reducible repeat (first | refine kn' ?_ _ | refine kd' ?_ | refine ka' ?_ _)); exact BK243.out) hb); have n8_ := am' (blk_below (g := gb266) (o := .cells #[.slice Ao42 t261.length co42, .int .i64 t264, .int .i64 t265] 31 (0, 0)) (by (with_reducible repeat (first | refine kn' ?_ _ | refine kd' ?_ | refine ka' ?_ _)); exact BK266.out) hb); have n9_ := am' (blk_below (g := gb271) (o := .cells #[.slice Ao49 t267.length co49, .int .i64 t270] 28 (0, 0)) (by (with_reducible repeat (first | refine kn' ?_ _ | refine kd' ?_ | refine ka' ?_ _)); exact BK271.out) hb); have n10_ := am' (below_step (by repeat (first | (with_reducible first | exact HB.out | apply ba' | apply bd' | apply be' | refine bs' ?_ GE242.out | refine bs' ?_ GE243.out | refine bs' ?_ GE266.out | refine bs' ?_ GE271.out) | exact HB.out)) hb); clear HO249; clear HO254; clear HO258; clear HO263; clear HO269; clear HO274; clear BK242; clear BK243; clear BK266; clear BK271; clear HB; have HO249 := n0_; have HO254 := n1_; have HO258 := n2_; have HO263 := n3_; have HO269 := n4_; have HO274 := n5_; have BK242 := n6_; have BK243 := n7_; have BK266 := n8_; have BK271 := n9_; have HB := n10_; clear n0_ n1_ n2_ n3_ n4_ n5_ n6_ n7_ n8_ n9_ n10_; (try clear hb); (try clear hb2); (try clear hk); (try clear hi)))
       (try simp only [Act.put, sa', sb', sc'])
       go_cut [60] (fun v60 wc => ∃ (kq : Nat) (x60_28 : Bool), v60 = .bool x60_28 ∧ Aside0 (laws_FnExactCanRound.j3 kq l2 t272 x60_28 l0_0 a0_1 a0_2 l1_0 a1_1 t261 t264 t265 t267 t270 = some r) ∧ Aside0 (kq ≤ kj18) ∧ Aside0 (Kd.S (Kd.slice 3 (Kd.int .i64)) 22 wc w.heap.size (fun k_ => some k_ ≠ ((.slice Ao42 t261.length co42) : Value).ownBlock ∧ ¬ D294_ k_) (.slice Ao57 t272.length co57) t272) ∧ Aside0 (Kd.R (Kd.int .i64) 3 wc w.heap.size (fun k_ => ¬ D292_ k_ ∧ D293_ k_ ∧ D294_ k_) (.slice Ao42 t261.length co42) t261) ∧ Aside0 (Kd.R Kd.bool 4 wc w.heap.size (fun k_ => ¬ D293_ k_ ∧ D294_ k_) (.slice Ao49 t267.length co49) t267) ∧ Aside0 (wc.heap[gb242]? = some (.cells #[(.slice A0_0 l0_0.length c0_0), .int .i64 a0_1, .int .i64 a0_2] 24 (0, 0))) ∧ Aside0 (wc.heap[gb243]? = some (.cells #[(.slice A1_0 l1_0.length c1_0), .int .i64 a1_1] 45 (0, 0))) ∧ Aside0 (wc.heap[gb266]? = some (.cells #[(.slice Ao42 t261.length co42), .int .i64 t264, .int .i64 t265] 31 (0, 0))) ∧ Aside0 (wc.heap[gb271]? = some (.cells #[(.slice Ao49 t267.length co49), .int .i64 t270] 28 (0, 0))) ∧ Aside0 (Below w.heap.size w wc))
       case first =>
        have H := HC29.out
        clear HC29; by_cases c59 : (t275 != t259) = true
        ·
         rw [if_pos c59] at H; have c59b0 : (t275 != t259) = true := c59
         (try (have c59b1 : decide (t275 = t259) = false := by simpa using c59))
         (try (have c59b2 : (t275 == t259) = false := by simpa using c59))
         (try (have c59b3 : ¬ (t275 = t259) := by simpa using c59))
         clear c59; (first | rw [c59b0] | (simp only [i64_w, i32_w]; rw [c59b0]) | skip)
         have H' := am' H
         clear H; go_wp2
         go_meet
         case rel => exact ⟨_, (true), (by first | rfl | (simp; done) | (simp [*]; done)), H', ⟨by have := HJ4.out; have := HJ12.out; have := HJ18.out; first | omega | exact Nat.le_refl _⟩, ⟨by (with_reducible repeat (first | apply Kd.S_alloc | apply Kd.S_drewN | apply Kd.S_drew)); exact Kd.S_mono HO274.out (fun _ hk => ⟨hk.2, hk.1.1.1.2⟩)⟩, ⟨by (with_reducible repeat (first | apply ra' | apply rn' | apply rw')); exact Kd.R_mono HO263.out (fun _ hk => ⟨hk.1.1.1.2, ⟨hk.1.2, hk.2⟩⟩)⟩, ⟨by (with_reducible repeat (first | apply ra' | apply rn' | apply rw')); exact Kd.R_mono HO269.out (fun _ hk => ⟨hk.1.1.2, hk.2⟩)⟩, ⟨by (with_reducible repeat (first | refine kn' ?_ _ | refine kd' ?_ | refine ka' ?_ _)); exact BK242.out⟩, ⟨by (with_reducible repeat (first | refine kn' ?_ _ | refine kd' ?_ | refine ka' ?_ _)); exact BK243.out⟩, ⟨by (with_reducible repeat (first | refine kn' ?_ _ | refine kd' ?_ | refine ka' ?_ _)); exact BK266.out⟩, ⟨by (with_reducible repeat (first | refine kn' ?_ _ | refine kd' ?_ | refine ka' ?_ _)); exact BK271.out⟩, ⟨by repeat (first | (with_reducible first | exact HB.out | apply ba' | apply bd' | apply be' | refine bs' ?_ GE242.out | refine bs' ?_ GE243.out | refine bs' ?_ GE266.out | refine bs' ?_ GE271.out) | exact HB.out)⟩⟩
        ·
         rw [if_neg c59] at H; have c59b0 : (t275 != t259) = false := by simpa using c59
         (try (have c59b1 : decide (t275 = t259) = true := by simpa using c59))
         (try (have c59b2 : (t275 == t259) = true := by simpa using c59))
         clear c59; (first | rw [c59b0] | (simp only [i64_w, i32_w]; rw [c59b0]) | skip)
         have H' := am' H
         clear H; go_wp2
         go_meet
         case rel => exact ⟨_, ((t276 != t260)), (by first | rfl | (simp; done) | (simp [*]; done)), H', ⟨by have := HJ4.out; have := HJ12.out; have := HJ18.out; first | omega | exact Nat.le_refl _⟩, ⟨by (with_reducible repeat (first | apply Kd.S_alloc | apply Kd.S_drewN | apply Kd.S_drew)); exact Kd.S_mono HO274.out (fun _ hk => ⟨hk.2, hk.1.1.1.2⟩)⟩, ⟨by (with_reducible repeat (first | apply ra' | apply rn' | apply rw')); exact Kd.R_mono HO263.out (fun _ hk => ⟨hk.1.1.1.2, ⟨hk.1.2, hk.2⟩⟩)⟩, ⟨by (with_reducible repeat (first | apply ra' | apply rn' | apply rw')); exact Kd.R_mono HO269.out (fun _ hk => ⟨hk.1.1.2, hk.2⟩)⟩, ⟨by (with_reducible repeat (first | refine kn' ?_ _ | refine kd' ?_ | refine ka' ?_ _)); exact BK242.out⟩, ⟨by (with_reducible repeat (first | refine kn' ?_ _ | refine kd' ?_ | refine ka' ?_ _)); exact BK243.out⟩, ⟨by (with_reducible repeat (first | refine kn' ?_ _ | refine kd' ?_ | refine ka' ?_ _)); exact BK266.out⟩, ⟨by (with_reducible repeat (first | refine kn' ?_ _ | refine kd' ?_ | refine ka' ?_ _)); exact BK271.out⟩, ⟨by repeat (first | (with_reducible first | exact HB.out | apply ba' | apply bd' | apply be' | refine bs' ?_ GE242.out | refine bs' ?_ GE243.out | refine bs' ?_ GE266.out | refine bs' ?_ GE271.out) | exact HB.out)⟩⟩
       case rest =>
        clear HC29; try clear c1
        try clear c2
        try clear p2
        try clear c3
        try clear c4
        try clear c5
        try clear c8
        try clear c11
        try clear c11b0
        try clear c14
        try clear c15
        try clear c17
        try clear c17b0
        try clear c20
        try clear c20b0
        try clear c24
        try clear c26
        try clear c29
        try clear c30
        try clear c31
        try clear c32
        try clear c38
        try clear c43
        try clear c44
        try clear c50
        try clear c51
        try clear c52
        try clear c59
        try clear c59b0
        try clear c59b1
        try clear c59b2
        try clear hcz15_0
        try clear hcz15_1
        try clear hcz39_0
        try clear hcz39_1
        try clear hcz39_2
        try clear hcz45_0
        try clear hcz45_1
        try clear hcz45_2
        try clear hcz46_0
        try clear hcz46_1
        try clear hcz53_0
        try clear hcz53_1
        try clear hcz55_0
        try clear hcz55_1
        try clear hcz55_2
        try clear hcz56_0
        try clear hcz56_1
        try clear hcz9_0
        try clear hcz9_1
        try clear hcz9_2
        try clear hfz15_0
        try clear hfz15_1
        try clear hfz39_0
        try clear hfz39_1
        try clear hfz39_2
        try clear hfz45_0
        try clear hfz45_1
        try clear hfz45_2
        try clear hfz46_0
        try clear hfz46_1
        try clear hfz53_0
        try clear hfz53_1
        try clear hfz55_0
        try clear hfz55_1
        try clear hfz55_2
        try clear hfz56_0
        try clear hfz56_1
        try clear hfz9_0
        try clear hfz9_1
        try clear hfz9_2
        try clear p2
        obtain ⟨kq, x60_28, rfl, HA, HJ28, HO_12, HO_267000, HO_272000, BK242, BK243, BK266, BK271, HB⟩ := hcut
        cases kq with
        | zero => exact absurd HA.out (by simp [laws_FnExactCanRound.j3])
        | succ kj28 =>
         have H := HA.out
         clear HA; simp only [laws_FnExactCanRound.j3] at H
         have HC60 := am' H
         clear H; go_upto_if 60 with (fail)
         go_cut [] (fun wc => ∃ (kq : Nat), Aside0 (laws_FnExactCanRound.j4 kq l2 t272 l0_0 a0_1 a0_2 l1_0 a1_1 t261 t264 t265 t267 t270 = some r) ∧ Aside0 (kq ≤ kj28) ∧ Aside0 (Kd.S (Kd.slice 3 (Kd.int .i64)) 22 wc w.heap.size (fun k_ => some k_ ≠ ((.slice Ao42 t261.length co42) : Value).ownBlock ∧ ¬ D294_ k_) (.slice Ao57 t272.length co57) t272) ∧ Aside0 (Kd.R (Kd.int .i64) 3 wc w.heap.size (fun k_ => ¬ D292_ k_ ∧ D293_ k_ ∧ D294_ k_) (.slice Ao42 t261.length co42) t261) ∧ Aside0 (Kd.R Kd.bool 4 wc w.heap.size (fun k_ => ¬ D293_ k_ ∧ D294_ k_) (.slice Ao49 t267.length co49) t267) ∧ Aside0 (wc.heap[gb242]? = some (.cells #[(.slice A0_0 l0_0.length c0_0), .int .i64 a0_1, .int .i64 a0_2] 24 (0, 0))) ∧ Aside0 (wc.heap[gb243]? = some (.cells #[(.slice A1_0 l1_0.length c1_0), .int .i64 a1_1] 45 (0, 0))) ∧ Aside0 (wc.heap[gb266]? = some (.cells #[(.slice Ao42 t261.length co42), .int .i64 t264, .int .i64 t265] 31 (0, 0))) ∧ Aside0 (wc.heap[gb271]? = some (.cells #[(.slice Ao49 t267.length co49), .int .i64 t270] 28 (0, 0))) ∧ Aside0 (Below w.heap.size w wc))
         case first =>
          have H := HC60.out
          clear HC60; by_cases c61 : x60_28 = true
          ·
           subst c61; have H1 : (some false) = some r := by rw [if_pos rfl] at H; exact H
           clear H; have H := H1; clear H1; obtain rfl := Option.some.inj H
           go_wp2
           go_ret
           exact ⟨by first | rfl | (simp [errW_none, errW_some] <;> rfl) | (simp [*, errW_none, errW_some] <;> rfl), by repeat (first | (with_reducible first | exact HB.out | apply ba' | apply bd' | apply be' | refine bs' ?_ GE242.out | refine bs' ?_ GE243.out | refine bs' ?_ GE266.out | refine bs' ?_ GE271.out) | exact HB.out)⟩
          ·
           replace c61 := Bool.eq_false_iff.mpr c61
           subst c61; have H1 : (laws_FnExactCanRound.j4 kj28 l2 t272 l0_0 a0_1 a0_2 l1_0 a1_1 t261 t264 t265 t267 t270) = some r := by rw [if_neg (show ¬ (false = true) by decide)] at H; exact H
           clear H; have H := H1; clear H1; have H' := am' H
           clear H; go_wp2
           go_meet
           case rel => exact ⟨_, H', ⟨by have := HJ4.out; have := HJ12.out; have := HJ18.out; have := HJ28.out; first | omega | exact Nat.le_refl _⟩, ⟨by (with_reducible repeat (first | apply Kd.S_alloc | apply Kd.S_drewN | apply Kd.S_drew)); exact HO_12.out⟩, ⟨by (with_reducible repeat (first | apply ra' | apply rn' | apply rw')); exact HO_267000.out⟩, ⟨by (with_reducible repeat (first | apply ra' | apply rn' | apply rw')); exact HO_272000.out⟩, ⟨by (with_reducible repeat (first | refine kn' ?_ _ | refine kd' ?_ | refine ka' ?_ _)); exact BK242.out⟩, ⟨by (with_reducible repeat (first | refine kn' ?_ _ | refine kd' ?_ | refine ka' ?_ _)); exact BK243.out⟩, ⟨by (with_reducible repeat (first | refine kn' ?_ _ | refine kd' ?_ | refine ka' ?_ _)); exact BK266.out⟩, ⟨by (with_reducible repeat (first | refine kn' ?_ _ | refine kd' ?_ | refine ka' ?_ _)); exact BK271.out⟩, ⟨by repeat (first | (with_reducible first | exact HB.out | apply ba' | apply bd' | apply be' | refine bs' ?_ GE242.out | refine bs' ?_ GE243.out | refine bs' ?_ GE266.out | refine bs' ?_ GE271.out) | exact HB.out)⟩⟩
         case rest =>
          clear HC60; try clear c1
          try clear c2
          try clear p2
          try clear c3
          try clear c4
          try clear c5
          try clear c6
          try clear c8
          try clear c11
          try clear c11b0
          try clear c14
          try clear c15
          try clear c17
          try clear c17b0
          try clear c20
          try clear c20b0
          try clear c24
          try clear c26
          try clear c29
          try clear c30
          try clear c31
          try clear c32
          try clear c38
          try clear c43
          try clear c44
          try clear c50
          try clear c51
          try clear c52
          try clear c59
          try clear c59b0
          try clear c59b1
          try clear c59b2
          try clear c61
          try clear hcz15_0
          try clear hcz15_1
          try clear hcz39_0
          try clear hcz39_1
          try clear hcz39_2
          try clear hcz45_0
          try clear hcz45_1
          try clear hcz45_2
          try clear hcz46_0
          try clear hcz46_1
          try clear hcz53_0
          try clear hcz53_1
          try clear hcz55_0
          try clear hcz55_1
          try clear hcz55_2
          try clear hcz56_0
          try clear hcz56_1
          try clear hcz9_0
          try clear hcz9_1
          try clear hcz9_2
          try clear hfz15_0
          try clear hfz15_1
          try clear hfz39_0
          try clear hfz39_1
          try clear hfz39_2
          try clear hfz45_0
          try clear hfz45_1
          try clear hfz45_2
          try clear hfz46_0
          try clear hfz46_1
          try clear hfz53_0
          try clear hfz53_1
          try clear hfz55_0
          try clear hfz55_1
          try clear hfz55_2
          try clear hfz56_0
          try clear hfz56_1
          try clear hfz9_0
          try clear hfz9_1
          try clear hfz9_2
          try clear p2
          obtain ⟨kq, HA, HJ59, HO_12, HO_267000, HO_272000, BK242, BK243, BK266, BK271, HB⟩ := hcut
          cases kq with
          | zero => exact absurd HA.out (by simp [laws_FnExactCanRound.j4])
          | succ kj59 =>
           have H := HA.out
           clear HA; simp only [laws_FnExactCanRound.j4] at H
           replace H := Option.bind_eq_some_iff.mp H
           obtain ⟨⟨t277, t280, t281⟩, A620, H⟩ := H
           replace H : ((laws_eqNight.f kj59 t261 t264 t265 t277 t280 t281).bind fun t282 => (if t282 = true then (laws_FnExactCanRound.j5 kj59 l2 t272 l1_0 a1_1 t267 t270) else (some false))) = some r := H
           have A62 := am' A620
           clear A620; replace H := Option.bind_eq_some_iff.mp H
           obtain ⟨t282, A630, H⟩ := H
           replace H : (if t282 = true then (laws_FnExactCanRound.j5 kj59 l2 t272 l1_0 a1_1 t267 t270) else (some false)) = some r := H
           have A63 := am' A630
           clear A630; have HC64 := am' H
           clear H; try go_wp2
           have n0_ := am' (Kd.S_drew HO_12.out)
           have n1_ := am' (rw' HO_267000.out)
           have n2_ := am' (rw' HO_272000.out)
           have n3_ := am' (kd' BK242.out)
           have n4_ := am' (kd' BK243.out)
           have n5_ := am' (kd' BK266.out)
           have n6_ := am' (kd' BK271.out)
           have n7_ := am' (be' HB.out)
           clear HO_12; clear HO_267000; clear HO_272000; clear BK242; clear BK243; clear BK266; clear BK271; clear HB; have HO_12 := n0_; have HO_267000 := n1_; have HO_272000 := n2_; have BK242 := n3_; have BK243 := n4_; have BK266 := n5_; have BK271 := n6_; have HB := n7_; clear n0_ n1_ n2_ n3_ n4_ n5_ n6_ n7_; refine start_ (n := 5) (S := fun w' => w'.cell? ⟨gb266, 0, none⟩ = some (.slice Ao42 t261.length co42) ∧ w'.cell? ⟨gb266, 1, none⟩ = some (.int .i64 t264) ∧ w'.cell? ⟨gb266, 2, none⟩ = some (.int .i64 t265) ∧ w'.cell? ⟨gb242, 0, none⟩ = some (.slice A0_0 l0_0.length c0_0) ∧ w'.cell? ⟨gb242, 1, none⟩ = some (.int .i64 a0_1) ∧ w'.cell? ⟨gb242, 2, none⟩ = some (.int .i64 a0_2)) (ds := []) #[false, false, false, false, false] (by kernel_rfl) rfl rfl ⟨(blk_cell BK266.out 0).trans rfl, (blk_cell BK266.out 1).trans rfl, (blk_cell BK266.out 2).trans rfl, (blk_cell BK242.out 0).trans rfl, (blk_cell BK242.out 1).trans rfl, (blk_cell BK242.out 2).trans rfl⟩ (fun hHeld => ?_)
           generalize wc.drew = w65 at HO_12 HO_267000 HO_272000 BK242 BK243 BK266 BK271 HB hHeld ⊢
           refine take_ (i := 0) (N := some 61) (v := ?_) (a' := ?_) #[true, false, false, false, false] rfl rfl (by kernel_rfl) (fun _ _ _ h => h) (Or.inl ⟨by rfl, ?_⟩) hHeld ?_ ?_
           rotate_left
           ·
            rintro w' ⟨s0, s1, s2, s3, s4, s5⟩
            go_simp; with_reducible rfl
           rotate_left
           ·
            simp only [Act.put, sa', sb', sc', i64_w, i32_w]
            rfl
           refine take_ (i := 1) (N := some 62) (v := ?_) (a' := ?_) #[true, true, false, false, false] rfl rfl (by kernel_rfl) (fun _ _ _ h => h) (Or.inl ⟨by rfl, ?_⟩) hHeld ?_ ?_
           rotate_left
           ·
            rintro w' ⟨s0, s1, s2, s3, s4, s5⟩
            go_simp; with_reducible rfl
           rotate_left
           ·
            simp only [Act.put, sa', sb', sc', i64_w, i32_w]
            rfl
           refine one_ (i := 2) (N := some 63) #[true, true, true, false, false] rfl rfl (by kernel_rfl) (by decide) (fun K hK => ?_)
           refine goes_ Try.func17 (by kernel_rfl) rfl #[.agg #[.slice A0_0 l0_0.length c0_0, .int .i64 a0_1, .int .i64 a0_2]] (by rfl) rfl rfl (by (try simp only [List.map_toArray, List.map_cons, List.map_nil]); first | done | rfl | (simp only [List.length_drop, List.length_take]; rfl)) ?_
           with_reducible refine (laws_toNight.calls kj59 _ _ l0_0 a0_1 a0_2 t277 t280 t281 _ ?side1 ?side2 A62.out).mono ?_
           (case side1 => repeat (first | exact (Kd.C_below HR0_0.out HB.out) | (with_reducible refine ca' ?_ _) | (with_reducible refine cn' ?_ _) | (with_reducible refine cd' ?_)))
           (case side2 => exact HC0_0.out)
           rintro e w66 ⟨v278, rfl, ho0, hb⟩
           refine ⟨_, rfl, ?_⟩
           have n0_ := am' (Kd.S_elder' (by (with_reducible repeat (first | apply Kd.S_alloc | apply Kd.S_drewN | apply Kd.S_drew)); exact HO_12.out) (Kd.R_base ho0) hb)
           have n1_ := am' (Kd.R_elder' (by (with_reducible repeat (first | apply ra' | apply rn' | apply rw')); exact HO_267000.out) (Kd.R_base ho0) hb)
           have n2_ := am' (Kd.R_below (by (with_reducible repeat (first | apply ra' | apply rn' | apply rw')); exact HO_272000.out) hb)
           have n3_ := am' (Kd.R_lower (Kd.R_new' ho0 (Kd.R_lt (by (with_reducible repeat (first | apply ra' | apply rn' | apply rw')); exact HO_267000.out))) (below_size (by repeat (first | (with_reducible first | exact HB.out | apply ba' | apply bd' | apply be' | refine bs' ?_ GE242.out | refine bs' ?_ GE243.out | refine bs' ?_ GE266.out | refine bs' ?_ GE271.out) | exact HB.out))))
           have n4_ := am' (blk_below (g := gb242) (o := .cells #[.slice A0_0 l0_0.length c0_0, .int .i64 a0_1, .int .i64 a0_2] 24 (0, 0)) (by (with_reducible repeat (first | refine kn' ?_ _ | refine kd' ?_ | refine ka' ?_ _)); exact BK242.out) hb)
           have n5_ := am' (blk_below (g := gb243) (o := .cells #[.slice A1_0 l1_0.length c1_0, .int .i64 a1_1] 45 (0, 0)) (by (with_reducible repeat (first | refine kn' ?_ _ | refine kd' ?_ | refine ka' ?_ _)); exact BK243.out) hb)
           have n6_ := am' (blk_below (g := gb266) (o := .cells #[.slice Ao42 t261.length co42, .int .i64 t264, .int .i64 t265] 31 (0, 0)) (by (with_reducible repeat (first | refine kn' ?_ _ | refine kd' ?_ | refine ka' ?_ _)); exact BK266.out) hb)
           have n7_ := am' (blk_below (g := gb271) (o := .cells #[.slice Ao49 t267.length co49, .int .i64 t270] 28 (0, 0)) (by (with_reducible repeat (first | refine kn' ?_ _ | refine kd' ?_ | refine ka' ?_ _)); exact BK271.out) hb)
           have n8_ := am' (below_step (by repeat (first | (with_reducible first | exact HB.out | apply ba' | apply bd' | apply be' | refine bs' ?_ GE242.out | refine bs' ?_ GE243.out | refine bs' ?_ GE266.out | refine bs' ?_ GE271.out) | exact HB.out)) hb)
           clear HO_12; clear HO_267000; clear HO_272000; clear BK242; clear BK243; clear BK266; clear BK271; clear HB; have HO_12 := n0_; have HO_267000 := n1_; have HO_272000 := n2_; have HO279 := n3_; have BK242 := n4_; have BK243 := n5_; have BK266 := n6_; have BK271 := n7_; have HB := n8_; clear n0_ n1_ n2_ n3_ n4_ n5_ n6_ n7_ n8_; (try clear hb)
           (try clear hb2)
           (try clear hk)
           (try clear hi)
           (try clear ho0)
           obtain ⟨Ao67, co67, eo67⟩ := Kd.R_slice HO279.out
           (first | subst eo67 | (injection eo67 with f1_ f2_ f3_; have f4_ := f1_.symm; have f5_ := f3_.symm; clear f1_ f2_ f3_; subst f4_; subst f5_))
           refine hK.out _ _ ⟨(blk_cell BK266.out 0).trans rfl, (blk_cell BK266.out 1).trans rfl, (blk_cell BK266.out 2).trans rfl, (blk_cell BK242.out 0).trans rfl, (blk_cell BK242.out 1).trans rfl, (blk_cell BK242.out 2).trans rfl⟩ (fun hHeld => ?_)
           clear hK K; refine norm_ (a' := ?_) ?_ ?_
           rotate_left
           ·
            show Act.put _ (some 63) _ = _
            simp only [Act.put, sa', sb', sc', i64_w, i32_w]
            rfl
           refine one_ (i := 3) (N := some 64) #[true, true, true, true, false] rfl rfl (by kernel_rfl) (by decide) (fun K hK => ?_)
           refine goes_ Try.func20 (by kernel_rfl) rfl #[.agg #[.slice Ao42 t261.length co42, .int .i64 t264, .int .i64 t265], .agg #[.slice Ao67 t277.length co67, .int .i64 t280, .int .i64 t281]] (by rfl) rfl rfl (by (try simp only [List.map_toArray, List.map_cons, List.map_nil]); first | done | rfl | (simp only [List.length_drop, List.length_take]; rfl)) ?_
           with_reducible refine (laws_eqNight.calls kj59 _ _ t261 t264 t265 _ _ t277 t280 t281 t282 _ ?side1 ?side2 ?side3 ?side4 A63.out).mono ?_
           (case side1 => repeat (first | exact (Kd.R_reads' HO_267000.out).2.2 | (with_reducible refine ca' ?_ _) | (with_reducible refine cn' ?_ _) | (with_reducible refine cd' ?_)))
           (case side2 => exact (Kd.R_reads' HO_267000.out).2.1)
           (case side3 => repeat (first | exact (Kd.R_reads' HO279.out).2.2 | (with_reducible refine ca' ?_ _) | (with_reducible refine cn' ?_ _) | (with_reducible refine cd' ?_)))
           (case side4 => exact (Kd.R_reads' HO279.out).2.1)
           rintro e w68 ⟨rfl, hb⟩
           refine ⟨_, rfl, ?_⟩
           have n0_ := am' (Kd.S_below (by (with_reducible repeat (first | apply Kd.S_alloc | apply Kd.S_drewN | apply Kd.S_drew)); exact HO_12.out) hb)
           have n1_ := am' (Kd.R_below (by (with_reducible repeat (first | apply ra' | apply rn' | apply rw')); exact HO_267000.out) hb)
           have n2_ := am' (Kd.R_below (by (with_reducible repeat (first | apply ra' | apply rn' | apply rw')); exact HO_272000.out) hb)
           have n3_ := am' (Kd.R_below (by (with_reducible repeat (first | apply ra' | apply rn' | apply rw')); exact HO279.out) hb)
           have n4_ := am' (blk_below (g := gb242) (o := .cells #[.slice A0_0 l0_0.length c0_0, .int .i64 a0_1, .int .i64 a0_2] 24 (0, 0)) (by (with_reducible repeat (first | refine kn' ?_ _ | refine kd' ?_ | refine ka' ?_ _)); exact BK242.out) hb)
           have n5_ := am' (blk_below (g := gb243) (o := .cells #[.slice A1_0 l1_0.length c1_0, .int .i64 a1_1] 45 (0, 0)) (by (with_reducible repeat (first | refine kn' ?_ _ | refine kd' ?_ | refine ka' ?_ _)); exact BK243.out) hb)
           have n6_ := am' (blk_below (g := gb266) (o := .cells #[.slice Ao42 t261.length co42, .int .i64 t264, .int .i64 t265] 31 (0, 0)) (by (with_reducible repeat (first | refine kn' ?_ _ | refine kd' ?_ | refine ka' ?_ _)); exact BK266.out) hb)
           have n7_ := am' (blk_below (g := gb271) (o := .cells #[.slice Ao49 t267.length co49, .int .i64 t270] 28 (0, 0)) (by (with_reducible repeat (first | refine kn' ?_ _ | refine kd' ?_ | refine ka' ?_ _)); exact BK271.out) hb)
           have n8_ := am' (below_step (by repeat (first | (with_reducible first | exact HB.out | apply ba' | apply bd' | apply be' | refine bs' ?_ GE242.out | refine bs' ?_ GE243.out | refine bs' ?_ GE266.out | refine bs' ?_ GE271.out) | exact HB.out)) hb)
           clear HO_12; clear HO_267000; clear HO_272000; clear HO279; clear BK242; clear BK243; clear BK266; clear BK271; clear HB; have HO_12 := n0_; have HO_267000 := n1_; have HO_272000 := n2_; have HO279 := n3_; have BK242 := n4_; have BK243 := n5_; have BK266 := n6_; have BK271 := n7_; have HB := n8_; clear n0_ n1_ n2_ n3_ n4_ n5_ n6_ n7_ n8_; (try clear hb)
           (try clear hb2)
           (try clear hk)
           (try clear hi)
           refine hK.out _ _ ⟨(blk_cell BK266.out 0).trans rfl, (blk_cell BK266.out 1).trans rfl, (blk_cell BK266.out 2).trans rfl, (blk_cell BK242.out 0).trans rfl, (blk_cell BK242.out 1).trans rfl, (blk_cell BK242.out 2).trans rfl⟩ (fun hHeld => ?_)
           clear hK K; refine norm_ (a' := ?_) ?_ ?_
           rotate_left
           ·
            show Act.put _ (some 64) _ = _
            simp only [Act.put, sa', sb', sc', i64_w, i32_w]
            rfl
           refine pure_ (i := 4) (N := some 65) (v := ?_) (a' := ?_) #[true, true, true, true, true] rfl rfl (by kernel_rfl) (fun _ _ _ h => h) (Or.inl ⟨by rfl, ?_⟩) ?_ ?_
           rotate_left
           ·
            intro w'; go_simp; with_reducible rfl
           rotate_left
           ·
            simp only [Act.put, sa', sb', sc', i64_w, i32_w]
            rfl
           refine done_ (by kernel_rfl) ?_
           go_upto_if 65 with (fail)
           go_cut [] (fun wc => ∃ (kq : Nat), Aside0 (laws_FnExactCanRound.j5 kq l2 t272 l1_0 a1_1 t267 t270 = some r) ∧ Aside0 (kq ≤ kj59) ∧ Aside0 (Kd.S (Kd.slice 3 (Kd.int .i64)) 22 wc w.heap.size (fun k_ => some k_ ≠ ((.slice Ao42 t261.length co42) : Value).ownBlock ∧ ¬ D294_ k_) (.slice Ao57 t272.length co57) t272) ∧ Aside0 (Kd.R (Kd.int .i64) 3 wc w.heap.size (fun k_ => ¬ D292_ k_ ∧ D293_ k_ ∧ D294_ k_) (.slice Ao42 t261.length co42) t261) ∧ Aside0 (Kd.R Kd.bool 4 wc w.heap.size (fun k_ => ¬ D293_ k_ ∧ D294_ k_) (.slice Ao49 t267.length co49) t267) ∧ Aside0 (wc.heap[gb242]? = some (.cells #[(.slice A0_0 l0_0.length c0_0), .int .i64 a0_1, .int .i64 a0_2] 24 (0, 0))) ∧ Aside0 (wc.heap[gb243]? = some (.cells #[(.slice A1_0 l1_0.length c1_0), .int .i64 a1_1] 45 (0, 0))) ∧ Aside0 (wc.heap[gb266]? = some (.cells #[(.slice Ao42 t261.length co42), .int .i64 t264, .int .i64 t265] 31 (0, 0))) ∧ Aside0 (wc.heap[gb271]? = some (.cells #[(.slice Ao49 t267.length co49), .int .i64 t270] 28 (0, 0))) ∧ Aside0 (Below w.heap.size w wc))
           case first =>
            have H := HC64.out
            clear HC64; by_cases c69 : t282 = true
            ·
             subst c69; have H1 : (laws_FnExactCanRound.j5 kj59 l2 t272 l1_0 a1_1 t267 t270) = some r := by rw [if_pos rfl] at H; exact H
             clear H; have H := H1; clear H1; have H' := am' H
             clear H; go_wp2
             go_meet
             case rel => exact ⟨_, H', ⟨by have := HJ4.out; have := HJ12.out; have := HJ18.out; have := HJ28.out; have := HJ59.out; first | omega | exact Nat.le_refl _⟩, ⟨by (with_reducible repeat (first | apply Kd.S_alloc | apply Kd.S_drewN | apply Kd.S_drew)); exact Kd.S_mono HO_12.out (fun _ hk => ⟨hk.1.1, hk.1.2⟩)⟩, ⟨by (with_reducible repeat (first | apply ra' | apply rn' | apply rw')); exact Kd.R_mono HO_267000.out (fun _ hk => ⟨hk.1.1, ⟨hk.1.2.1, hk.1.2.2⟩⟩)⟩, ⟨by (with_reducible repeat (first | apply ra' | apply rn' | apply rw')); exact HO_272000.out⟩, ⟨by (with_reducible repeat (first | refine kn' ?_ _ | refine kd' ?_ | refine ka' ?_ _)); exact BK242.out⟩, ⟨by (with_reducible repeat (first | refine kn' ?_ _ | refine kd' ?_ | refine ka' ?_ _)); exact BK243.out⟩, ⟨by (with_reducible repeat (first | refine kn' ?_ _ | refine kd' ?_ | refine ka' ?_ _)); exact BK266.out⟩, ⟨by (with_reducible repeat (first | refine kn' ?_ _ | refine kd' ?_ | refine ka' ?_ _)); exact BK271.out⟩, ⟨by repeat (first | (with_reducible first | exact HB.out | apply ba' | apply bd' | apply be' | refine bs' ?_ GE242.out | refine bs' ?_ GE243.out | refine bs' ?_ GE266.out | refine bs' ?_ GE271.out) | exact HB.out)⟩⟩
            ·
             replace c69 := Bool.eq_false_iff.mpr c69
             subst c69; have H1 : (some false) = some r := by rw [if_neg (show ¬ (false = true) by decide)] at H; exact H
             clear H; have H := H1; clear H1; obtain rfl := Option.some.inj H
             go_wp2
             go_ret
             exact ⟨by first | rfl | (simp [errW_none, errW_some] <;> rfl) | (simp [*, errW_none, errW_some] <;> rfl), by repeat (first | (with_reducible first | exact HB.out | apply ba' | apply bd' | apply be' | refine bs' ?_ GE242.out | refine bs' ?_ GE243.out | refine bs' ?_ GE266.out | refine bs' ?_ GE271.out) | exact HB.out)⟩
           case rest =>
            clear HC64; try clear c1
            try clear c2
            try clear p2
            try clear c3
            try clear c4
            try clear c5
            try clear c6
            try clear c8
            try clear c11
            try clear c11b0
            try clear c14
            try clear c15
            try clear c17
            try clear c17b0
            try clear c20
            try clear c20b0
            try clear c24
            try clear c26
            try clear c29
            try clear c30
            try clear c31
            try clear c32
            try clear c38
            try clear c43
            try clear c44
            try clear c50
            try clear c51
            try clear c52
            try clear c59
            try clear c59b0
            try clear c59b1
            try clear c59b2
            try clear c61
            try clear c69
            try clear hcz15_0
            try clear hcz15_1
            try clear hcz39_0
            try clear hcz39_1
            try clear hcz39_2
            try clear hcz45_0
            try clear hcz45_1
            try clear hcz45_2
            try clear hcz46_0
            try clear hcz46_1
            try clear hcz53_0
            try clear hcz53_1
            try clear hcz55_0
            try clear hcz55_1
            try clear hcz55_2
            try clear hcz56_0
            try clear hcz56_1
            try clear hcz9_0
            try clear hcz9_1
            try clear hcz9_2
            try clear hfz15_0
            try clear hfz15_1
            try clear hfz39_0
            try clear hfz39_1
            try clear hfz39_2
            try clear hfz45_0
            try clear hfz45_1
            try clear hfz45_2
            try clear hfz46_0
            try clear hfz46_1
            try clear hfz53_0
            try clear hfz53_1
            try clear hfz55_0
            try clear hfz55_1
            try clear hfz55_2
            try clear hfz56_0
            try clear hfz56_1
            try clear hfz9_0
            try clear hfz9_1
            try clear hfz9_2
            try clear p2
            obtain ⟨kq, HA, HJ63, HO_12, HO_267000, HO_272000, BK242, BK243, BK266, BK271, HB⟩ := hcut
            cases kq with
            | zero => exact absurd HA.out (by simp [laws_FnExactCanRound.j5])
            | succ kj63 =>
             have H := HA.out
             clear HA; simp only [laws_FnExactCanRound.j5] at H
             replace H := Option.bind_eq_some_iff.mp H
             obtain ⟨⟨t283, t286⟩, A700, H⟩ := H
             replace H : ((laws_eqCamp.f kj63 t267 t270 t283 t286).bind fun t287 => (if t287 = true then (laws_FnExactCanRound.j6 kj63 l2 t272) else (some false))) = some r := H
             have A70 := am' A700
             clear A700; replace H := Option.bind_eq_some_iff.mp H
             obtain ⟨t287, A710, H⟩ := H
             replace H : (if t287 = true then (laws_FnExactCanRound.j6 kj63 l2 t272) else (some false)) = some r := H
             have A71 := am' A710
             clear A710; have HC72 := am' H
             clear H; try go_wp2
             have n0_ := am' (Kd.S_drew HO_12.out)
             have n1_ := am' (rw' HO_267000.out)
             have n2_ := am' (rw' HO_272000.out)
             have n3_ := am' (kd' BK242.out)
             have n4_ := am' (kd' BK243.out)
             have n5_ := am' (kd' BK266.out)
             have n6_ := am' (kd' BK271.out)
             have n7_ := am' (be' HB.out)
             clear HO_12; clear HO_267000; clear HO_272000; clear BK242; clear BK243; clear BK266; clear BK271; clear HB; have HO_12 := n0_; have HO_267000 := n1_; have HO_272000 := n2_; have BK242 := n3_; have BK243 := n4_; have BK266 := n5_; have BK271 := n6_; have HB := n7_; clear n0_ n1_ n2_ n3_ n4_ n5_ n6_ n7_; refine start_ (n := 5) (S := fun w' => w'.cell? ⟨gb271, 0, none⟩ = some (.slice Ao49 t267.length co49) ∧ w'.cell? ⟨gb271, 1, none⟩ = some (.int .i64 t270) ∧ w'.cell? ⟨gb243, 0, none⟩ = some (.slice A1_0 l1_0.length c1_0) ∧ w'.cell? ⟨gb243, 1, none⟩ = some (.int .i64 a1_1)) (ds := []) #[false, false, false, false, false] (by kernel_rfl) rfl rfl ⟨(blk_cell BK271.out 0).trans rfl, (blk_cell BK271.out 1).trans rfl, (blk_cell BK243.out 0).trans rfl, (blk_cell BK243.out 1).trans rfl⟩ (fun hHeld => ?_)
             generalize wc.drew = w73 at HO_12 HO_267000 HO_272000 BK242 BK243 BK266 BK271 HB hHeld ⊢
             refine take_ (i := 0) (N := some 66) (v := ?_) (a' := ?_) #[true, false, false, false, false] rfl rfl (by kernel_rfl) (fun _ _ _ h => h) (Or.inl ⟨by rfl, ?_⟩) hHeld ?_ ?_
             rotate_left
             ·
              rintro w' ⟨s0, s1, s2, s3⟩
              go_simp; with_reducible rfl
             rotate_left
             ·
              simp only [Act.put, sa', sb', sc', i64_w, i32_w]
              rfl
             refine take_ (i := 1) (N := some 67) (v := ?_) (a' := ?_) #[true, true, false, false, false] rfl rfl (by kernel_rfl) (fun _ _ _ h => h) (Or.inl ⟨by rfl, ?_⟩) hHeld ?_ ?_
             rotate_left
             ·
              rintro w' ⟨s0, s1, s2, s3⟩
              go_simp; with_reducible rfl
             rotate_left
             ·
              simp only [Act.put, sa', sb', sc', i64_w, i32_w]
              rfl
             refine one_ (i := 2) (N := some 68) #[true, true, true, false, false] rfl rfl (by kernel_rfl) (by decide) (fun K hK => ?_)
             refine goes_ Try.func31 (by kernel_rfl) rfl #[.agg #[.slice A1_0 l1_0.length c1_0, .int .i64 a1_1]] (by rfl) rfl rfl (by (try simp only [List.map_toArray, List.map_cons, List.map_nil]); first | done | rfl | (simp only [List.length_drop, List.length_take]; rfl)) ?_
             with_reducible refine (laws_toCamp.calls kj63 _ _ l1_0 a1_1 t283 t286 _ ?side1 ?side2 A70.out).mono ?_
             (case side1 => repeat (first | exact (Kd.C_below HR1_0.out HB.out) | (with_reducible refine ca' ?_ _) | (with_reducible refine cn' ?_ _) | (with_reducible refine cd' ?_)))
             (case side2 => exact HC1_0.out)
             rintro e w74 ⟨v284, rfl, ho0, hb⟩
             refine ⟨_, rfl, ?_⟩
             have n0_ := am' (Kd.S_below (by (with_reducible repeat (first | apply Kd.S_alloc | apply Kd.S_drewN | apply Kd.S_drew)); exact HO_12.out) hb)
             have n1_ := am' (Kd.R_below (by (with_reducible repeat (first | apply ra' | apply rn' | apply rw')); exact HO_267000.out) hb)
             have n2_ := am' (Kd.R_elder' (by (with_reducible repeat (first | apply ra' | apply rn' | apply rw')); exact HO_272000.out) (Kd.R_base ho0) hb)
             have n3_ := am' (Kd.R_lower (Kd.R_new' ho0 (Kd.R_lt (by (with_reducible repeat (first | apply ra' | apply rn' | apply rw')); exact HO_272000.out))) (below_size (by repeat (first | (with_reducible first | exact HB.out | apply ba' | apply bd' | apply be' | refine bs' ?_ GE242.out | refine bs' ?_ GE243.out | refine bs' ?_ GE266.out | refine bs' ?_ GE271.out) | exact HB.out))))
             have n4_ := am' (blk_below (g := gb242) (o := .cells #[.slice A0_0 l0_0.length c0_0, .int .i64 a0_1, .int .i64 a0_2] 24 (0, 0)) (by (with_reducible repeat (first | refine kn' ?_ _ | refine kd' ?_ | refine ka' ?_ _)); exact BK242.out) hb)
             have n5_ := am' (blk_below (g := gb243) (o := .cells #[.slice A1_0 l1_0.length c1_0, .int .i64 a1_1] 45 (0, 0)) (by (with_reducible repeat (first | refine kn' ?_ _ | refine kd' ?_ | refine ka' ?_ _)); exact BK243.out) hb)
             have n6_ := am' (blk_below (g := gb266) (o := .cells #[.slice Ao42 t261.length co42, .int .i64 t264, .int .i64 t265] 31 (0, 0)) (by (with_reducible repeat (first | refine kn' ?_ _ | refine kd' ?_ | refine ka' ?_ _)); exact BK266.out) hb)
             have n7_ := am' (blk_below (g := gb271) (o := .cells #[.slice Ao49 t267.length co49, .int .i64 t270] 28 (0, 0)) (by (with_reducible repeat (first | refine kn' ?_ _ | refine kd' ?_ | refine ka' ?_ _)); exact BK271.out) hb)
             have n8_ := am' (below_step (by repeat (first | (with_reducible first | exact HB.out | apply ba' | apply bd' | apply be' | refine bs' ?_ GE242.out | refine bs' ?_ GE243.out | refine bs' ?_ GE266.out | refine bs' ?_ GE271.out) | exact HB.out)) hb)
             clear HO_12; clear HO_267000; clear HO_272000; clear BK242; clear BK243; clear BK266; clear BK271; clear HB; have HO_12 := n0_; have HO_267000 := n1_; have HO_272000 := n2_; have HO285 := n3_; have BK242 := n4_; have BK243 := n5_; have BK266 := n6_; have BK271 := n7_; have HB := n8_; clear n0_ n1_ n2_ n3_ n4_ n5_ n6_ n7_ n8_; (try clear hb)
             (try clear hb2)
             (try clear hk)
             (try clear hi)
             (try clear ho0)
             obtain ⟨Ao75, co75, eo75⟩ := Kd.R_slice HO285.out
             (first | subst eo75 | (injection eo75 with f1_ f2_ f3_; have f4_ := f1_.symm; have f5_ := f3_.symm; clear f1_ f2_ f3_; subst f4_; subst f5_))
             refine hK.out _ _ ⟨(blk_cell BK271.out 0).trans rfl, (blk_cell BK271.out 1).trans rfl, (blk_cell BK243.out 0).trans rfl, (blk_cell BK243.out 1).trans rfl⟩ (fun hHeld => ?_)
             clear hK K; refine norm_ (a' := ?_) ?_ ?_
             rotate_left
             ·
              show Act.put _ (some 68) _ = _
              simp only [Act.put, sa', sb', sc', i64_w, i32_w]
              rfl
             refine one_ (i := 3) (N := some 69) #[true, true, true, true, false] rfl rfl (by kernel_rfl) (by decide) (fun K hK => ?_)
             refine goes_ Try.func19 (by kernel_rfl) rfl #[.agg #[.slice Ao49 t267.length co49, .int .i64 t270], .agg #[.slice Ao75 t283.length co75, .int .i64 t286]] (by rfl) rfl rfl (by (try simp only [List.map_toArray, List.map_cons, List.map_nil]); first | done | rfl | (simp only [List.length_drop, List.length_take]; rfl)) ?_
             with_reducible refine (laws_eqCamp.calls kj63 _ _ t267 t270 _ _ t283 t286 t287 _ ?side1 ?side2 ?side3 ?side4 A71.out).mono ?_
             (case side1 => repeat (first | exact (Kd.R_reads' HO_272000.out).2.2 | (with_reducible refine ca' ?_ _) | (with_reducible refine cn' ?_ _) | (with_reducible refine cd' ?_)))
             (case side2 => exact (Kd.R_reads' HO_272000.out).2.1)
             (case side3 => repeat (first | exact (Kd.R_reads' HO285.out).2.2 | (with_reducible refine ca' ?_ _) | (with_reducible refine cn' ?_ _) | (with_reducible refine cd' ?_)))
             (case side4 => exact (Kd.R_reads' HO285.out).2.1)
             rintro e w76 ⟨rfl, hb⟩
             refine ⟨_, rfl, ?_⟩
             have n0_ := am' (Kd.S_below (by (with_reducible repeat (first | apply Kd.S_alloc | apply Kd.S_drewN | apply Kd.S_drew)); exact HO_12.out) hb)
             have n1_ := am' (Kd.R_below (by (with_reducible repeat (first | apply ra' | apply rn' | apply rw')); exact HO_267000.out) hb)
             have n2_ := am' (Kd.R_below (by (with_reducible repeat (first | apply ra' | apply rn' | apply rw')); exact HO_272000.out) hb)
             have n3_ := am' (Kd.R_below (by (with_reducible repeat (first | apply ra' | apply rn' | apply rw')); exact HO285.out) hb)
             have n4_ := am' (blk_below (g := gb242) (o := .cells #[.slice A0_0 l0_0.length c0_0, .int .i64 a0_1, .int .i64 a0_2] 24 (0, 0)) (by (with_reducible repeat (first | refine kn' ?_ _ | refine kd' ?_ | refine ka' ?_ _)); exact BK242.out) hb)
             have n5_ := am' (blk_below (g := gb243) (o := .cells #[.slice A1_0 l1_0.length c1_0, .int .i64 a1_1] 45 (0, 0)) (by (with_reducible repeat (first | refine kn' ?_ _ | refine kd' ?_ | refine ka' ?_ _)); exact BK243.out) hb)
             have n6_ := am' (blk_below (g := gb266) (o := .cells #[.slice Ao42 t261.length co42, .int .i64 t264, .int .i64 t265] 31 (0, 0)) (by (with_reducible repeat (first | refine kn' ?_ _ | refine kd' ?_ | refine ka' ?_ _)); exact BK266.out) hb)
             have n7_ := am' (blk_below (g := gb271) (o := .cells #[.slice Ao49 t267.length co49, .int .i64 t270] 28 (0, 0)) (by (with_reducible repeat (first | refine kn' ?_ _ | refine kd' ?_ | refine ka' ?_ _)); exact BK271.out) hb)
             have n8_ := am' (below_step (by repeat (first | (with_reducible first | exact HB.out | apply ba' | apply bd' | apply be' | refine bs' ?_ GE242.out | refine bs' ?_ GE243.out | refine bs' ?_ GE266.out | refine bs' ?_ GE271.out) | exact HB.out)) hb)
             clear HO_12; clear HO_267000; clear HO_272000; clear HO285; clear BK242; clear BK243; clear BK266; clear BK271; clear HB; have HO_12 := n0_; have HO_267000 := n1_; have HO_272000 := n2_; have HO285 := n3_; have BK242 := n4_; have BK243 := n5_; have BK266 := n6_; have BK271 := n7_; have HB := n8_; clear n0_ n1_ n2_ n3_ n4_ n5_ n6_ n7_ n8_; (try clear hb)
             (try clear hb2)
             (try clear hk)
             (try clear hi)
             refine hK.out _ _ ⟨(blk_cell BK271.out 0).trans rfl, (blk_cell BK271.out 1).trans rfl, (blk_cell BK243.out 0).trans rfl, (blk_cell BK243.out 1).trans rfl⟩ (fun hHeld => ?_)
             clear hK K; refine norm_ (a' := ?_) ?_ ?_
             rotate_left
             ·
              show Act.put _ (some 69) _ = _
              simp only [Act.put, sa', sb', sc', i64_w, i32_w]
              rfl
             refine pure_ (i := 4) (N := some 70) (v := ?_) (a' := ?_) #[true, true, true, true, true] rfl rfl (by kernel_rfl) (fun _ _ _ h => h) (Or.inl ⟨by rfl, ?_⟩) ?_ ?_
             rotate_left
             ·
              intro w'; go_simp; with_reducible rfl
             rotate_left
             ·
              simp only [Act.put, sa', sb', sc', i64_w, i32_w]
              rfl
             refine done_ (by kernel_rfl) ?_
             go_upto_if 70 with (fail)
             go_cut [] (fun wc => ∃ (kq : Nat), Aside0 (laws_FnExactCanRound.j6 kq l2 t272 = some r) ∧ Aside0 (kq ≤ kj63) ∧ Aside0 (Kd.S (Kd.slice 3 (Kd.int .i64)) 22 wc w.heap.size (fun k_ => some k_ ≠ ((.slice Ao42 t261.length co42) : Value).ownBlock ∧ ¬ D294_ k_) (.slice Ao57 t272.length co57) t272) ∧ Aside0 (Kd.R (Kd.int .i64) 3 wc w.heap.size (fun k_ => ¬ D292_ k_ ∧ D293_ k_ ∧ D294_ k_) (.slice Ao42 t261.length co42) t261) ∧ Aside0 (Kd.R Kd.bool 4 wc w.heap.size (fun k_ => ¬ D293_ k_ ∧ D294_ k_) (.slice Ao49 t267.length co49) t267) ∧ Aside0 (wc.heap[gb242]? = some (.cells #[(.slice A0_0 l0_0.length c0_0), .int .i64 a0_1, .int .i64 a0_2] 24 (0, 0))) ∧ Aside0 (wc.heap[gb243]? = some (.cells #[(.slice A1_0 l1_0.length c1_0), .int .i64 a1_1] 45 (0, 0))) ∧ Aside0 (wc.heap[gb266]? = some (.cells #[(.slice Ao42 t261.length co42), .int .i64 t264, .int .i64 t265] 31 (0, 0))) ∧ Aside0 (wc.heap[gb271]? = some (.cells #[(.slice Ao49 t267.length co49), .int .i64 t270] 28 (0, 0))) ∧ Aside0 (Below w.heap.size w wc))
             case first =>
              have H := HC72.out
              clear HC72; by_cases c77 : t287 = true
              ·
               subst c77; have H1 : (laws_FnExactCanRound.j6 kj63 l2 t272) = some r := by rw [if_pos rfl] at H; exact H
               clear H; have H := H1; clear H1; have H' := am' H
               clear H; go_wp2
               go_meet
               case rel => exact ⟨_, H', ⟨by have := HJ4.out; have := HJ12.out; have := HJ18.out; have := HJ28.out; have := HJ59.out; have := HJ63.out; first | omega | exact Nat.le_refl _⟩, ⟨by (with_reducible repeat (first | apply Kd.S_alloc | apply Kd.S_drewN | apply Kd.S_drew)); exact HO_12.out⟩, ⟨by (with_reducible repeat (first | apply ra' | apply rn' | apply rw')); exact HO_267000.out⟩, ⟨by (with_reducible repeat (first | apply ra' | apply rn' | apply rw')); exact Kd.R_mono HO_272000.out (fun _ hk => ⟨hk.1.1, hk.1.2⟩)⟩, ⟨by (with_reducible repeat (first | refine kn' ?_ _ | refine kd' ?_ | refine ka' ?_ _)); exact BK242.out⟩, ⟨by (with_reducible repeat (first | refine kn' ?_ _ | refine kd' ?_ | refine ka' ?_ _)); exact BK243.out⟩, ⟨by (with_reducible repeat (first | refine kn' ?_ _ | refine kd' ?_ | refine ka' ?_ _)); exact BK266.out⟩, ⟨by (with_reducible repeat (first | refine kn' ?_ _ | refine kd' ?_ | refine ka' ?_ _)); exact BK271.out⟩, ⟨by repeat (first | (with_reducible first | exact HB.out | apply ba' | apply bd' | apply be' | refine bs' ?_ GE242.out | refine bs' ?_ GE243.out | refine bs' ?_ GE266.out | refine bs' ?_ GE271.out) | exact HB.out)⟩⟩
              ·
               replace c77 := Bool.eq_false_iff.mpr c77
               subst c77; have H1 : (some false) = some r := by rw [if_neg (show ¬ (false = true) by decide)] at H; exact H
               clear H; have H := H1; clear H1; obtain rfl := Option.some.inj H
               go_wp2
               go_ret
               exact ⟨by first | rfl | (simp [errW_none, errW_some] <;> rfl) | (simp [*, errW_none, errW_some] <;> rfl), by repeat (first | (with_reducible first | exact HB.out | apply ba' | apply bd' | apply be' | refine bs' ?_ GE242.out | refine bs' ?_ GE243.out | refine bs' ?_ GE266.out | refine bs' ?_ GE271.out) | exact HB.out)⟩
             case rest =>
              clear HC72; try clear c1
              try clear c2
              try clear p2
              try clear c3
              try clear c4
              try clear c5
              try clear c6
              try clear c7
              try clear c8
              try clear c11
              try clear c11b0
              try clear c14
              try clear c15
              try clear c17
              try clear c17b0
              try clear c19
              try clear c20
              try clear c20b0
              try clear c24
              try clear c26
              try clear c29
              try clear c30
              try clear c31
              try clear c32
              try clear c38
              try clear c43
              try clear c44
              try clear c50
              try clear c51
              try clear c52
              try clear c59
              try clear c59b0
              try clear c59b1
              try clear c59b2
              try clear c61
              try clear c69
              try clear c77
              try clear hcz15_0
              try clear hcz15_1
              try clear hcz39_0
              try clear hcz39_1
              try clear hcz39_2
              try clear hcz45_0
              try clear hcz45_1
              try clear hcz45_2
              try clear hcz46_0
              try clear hcz46_1
              try clear hcz53_0
              try clear hcz53_1
              try clear hcz55_0
              try clear hcz55_1
              try clear hcz55_2
              try clear hcz56_0
              try clear hcz56_1
              try clear hcz9_0
              try clear hcz9_1
              try clear hcz9_2
              try clear hfz15_0
              try clear hfz15_1
              try clear hfz39_0
              try clear hfz39_1
              try clear hfz39_2
              try clear hfz45_0
              try clear hfz45_1
              try clear hfz45_2
              try clear hfz46_0
              try clear hfz46_1
              try clear hfz53_0
              try clear hfz53_1
              try clear hfz55_0
              try clear hfz55_1
              try clear hfz55_2
              try clear hfz56_0
              try clear hfz56_1
              try clear hfz9_0
              try clear hfz9_1
              try clear hfz9_2
              try clear p2
              obtain ⟨kq, HA, HJ71, HO_12, HO_267000, HO_272000, BK242, BK243, BK266, BK271, HB⟩ := hcut
              cases kq with
              | zero => exact absurd HA.out (by simp [laws_FnExactCanRound.j6])
              | succ kj71 =>
               have H := HA.out
               clear HA; simp only [laws_FnExactCanRound.j6] at H
               replace H := Option.bind_eq_some_iff.mp H
               obtain ⟨t288, A780, H⟩ := H
               replace H : ((laws_eqIntSS.f kj71 t272 t288).bind fun t291 => (if t291 = true then (some true) else (some false))) = some r := H
               have A78 := am' A780
               clear A780; replace H := Option.bind_eq_some_iff.mp H
               obtain ⟨t291, A790, H⟩ := H
               replace H : (if t291 = true then (some true) else (some false)) = some r := H
               have A79 := am' A790
               clear A790; by_cases c80 : t291 = true
               ·
                subst c80; have H1 : (some true) = some r := by rw [if_pos rfl] at H; exact H
                clear H; have H := H1; clear H1; obtain rfl := Option.some.inj H
                go_wp2_with (first | ((with_reducible refine gate_callee (f := 26) rfl ?_); refine goesL_ (some 73) rfl rfl Try.func26 (by kernel_rfl) rfl #[.slice A2 l2.length c2] rfl (by (try simp only [List.map_toArray, List.map_cons, List.map_nil]); first | done | rfl | (simp only [List.length_drop, List.length_take]; rfl)) ?_; (with_reducible refine (laws_toIntSS.calls kj71 _ _ l2 t288 _ ?side1 ?side2 A78.out).mono ?_); (case side1 => repeat (first | exact (Kd.C_below HR2.out HB.out) | (with_reducible refine ca' ?_ _) | (with_reducible refine cn' ?_ _) | (with_reducible refine cd' ?_))); (case side2 => exact HC2.out); rintro e w81 ⟨v289, rfl, ho0, hb⟩; refine ⟨_, rfl, ?_⟩; obtain ⟨D295_, hdl_, hdg_⟩ := dlt_of hb; have D295_lt := am' hdl_; have D295_ge := am' hdg_; clear hdl_ hdg_; have n0_ := am' (Kd.S_elder' (Kd.S_dlt (by (with_reducible repeat (first | apply Kd.S_alloc | apply Kd.S_drewN | apply Kd.S_drew)); exact HO_12.out) D295_lt.out) (Kd.S_base ho0) hb); have n1_ := am' (Kd.R_below (Kd.R_dlt (by (with_reducible repeat (first | apply ra' | apply rn' | apply rw')); exact HO_267000.out) D295_lt.out) hb); have n2_ := am' (Kd.R_below (Kd.R_dlt (by (with_reducible repeat (first | apply ra' | apply rn' | apply rw')); exact HO_272000.out) D295_lt.out) hb); have n3_ := am' (Kd.S_lower (Kd.S_new' (Kd.S_new' (Kd.S_dge ho0 D295_ge.out) (Kd.S_lt (by (with_reducible repeat (first | apply Kd.S_alloc | apply Kd.S_drewN | apply Kd.S_drew)); exact HO_12.out))) (Kd.R_lt (by (with_reducible repeat (first | apply ra' | apply rn' | apply rw')); exact HO_267000.out))) (below_size (by repeat (first | (with_reducible first | exact HB.out | apply ba' | apply bd' | apply be' | refine bs' ?_ GE242.out | refine bs' ?_ GE243.out | refine bs' ?_ GE266.out | refine bs' ?_ GE271.out) | exact HB.out)))); have n4_ := am' (blk_below (g := gb242) (o := .cells #[.slice A0_0 l0_0.length c0_0, .int .i64 a0_1, .int .i64 a0_2] 24 (0, 0)) (by (with_reducible repeat (first | refine kn' ?_ _ | refine kd' ?_ | refine ka' ?_ _)); exact BK242.out) hb); have n5_ := am' (blk_below (g := gb243) (o := .cells #[.slice A1_0 l1_0.length c1_0, .int .i64 a1_1] 45 (0, 0)) (by (with_reducible repeat (first | refine kn' ?_ _ | refine kd' ?_ | refine ka' ?_ _)); exact BK243.out) hb); have n6_ := am' (blk_below (g := gb266) (o := .cells #[.slice Ao42 t261.length co42, .int .i64 t264, .int .i64 t265] 31 (0, 0)) (by (with_reducible repeat (first | refine kn' ?_ _ | refine kd' ?_ | refine ka' ?_ _)); exact BK266.out) hb); have n7_ := am' (blk_below (g := gb271) (o := .cells #[.slice Ao49 t267.length co49, .int .i64 t270] 28 (0, 0)) (by (with_reducible repeat (first | refine kn' ?_ _ | refine kd' ?_ | refine ka' ?_ _)); exact BK271.out) hb); have n8_ := am' (below_step (by repeat (first | (with_reducible first | exact HB.out | apply ba' | apply bd' | apply be' | refine bs' ?_ GE242.out | refine bs' ?_ GE243.out | refine bs' ?_ GE266.out | refine bs' ?_ GE271.out) | exact HB.out)) hb); clear HO_12; clear HO_267000; clear HO_272000; clear BK242; clear BK243; clear BK266; clear BK271; clear HB; have HO_12 := n0_; have HO_267000 := n1_; have HO_272000 := n2_; have HO290 := n3_; have BK242 := n4_; have BK243 := n5_; have BK266 := n6_; have BK271 := n7_; have HB := n8_; clear n0_ n1_ n2_ n3_ n4_ n5_ n6_ n7_ n8_; (try clear hb); (try clear hb2); (try clear hk); (try clear hi); (try clear ho0); obtain ⟨Ao82, co82, eo82⟩ := Kd.S_slice HO290.out; subst eo82) | ((with_reducible refine gate_callee (f := 28) rfl ?_); refine goesL_ (some 74) rfl rfl Try.func28 (by kernel_rfl) rfl #[.slice Ao57 t272.length co57, .slice Ao82 t288.length co82] rfl (by (try simp only [List.map_toArray, List.map_cons, List.map_nil]); first | done | rfl | (simp only [List.length_drop, List.length_take]; rfl)) ?_; (with_reducible refine (laws_eqIntSS.calls kj71 _ _ t272 _ _ t288 true _ ?side1 ?side2 ?side3 ?side4 A79.out).mono ?_); (case side1 => repeat (first | exact (Kd.S_reads' HO_12.out).2.2 | (with_reducible refine ca' ?_ _) | (with_reducible refine cn' ?_ _) | (with_reducible refine cd' ?_))); (case side2 => exact (Kd.S_reads' HO_12.out).2.1); (case side3 => repeat (first | exact (Kd.S_reads' HO290.out).2.2 | (with_reducible refine ca' ?_ _) | (with_reducible refine cn' ?_ _) | (with_reducible refine cd' ?_))); (case side4 => exact (Kd.S_reads' HO290.out).2.1); rintro e w' ⟨rfl, ⟨nd, rfl⟩⟩; refine ⟨_, rfl, ?_⟩))
                go_ret
                exact ⟨by first | rfl | (simp [errW_none, errW_some] <;> rfl) | (simp [*, errW_none, errW_some] <;> rfl), by repeat (first | (with_reducible first | exact HB.out | apply ba' | apply bd' | apply be' | refine bs' ?_ GE242.out | refine bs' ?_ GE243.out | refine bs' ?_ GE266.out | refine bs' ?_ GE271.out) | exact HB.out)⟩
               ·
                replace c80 := Bool.eq_false_iff.mpr c80
                subst c80; have H1 : (some false) = some r := by rw [if_neg (show ¬ (false = true) by decide)] at H; exact H
                clear H; have H := H1; clear H1; obtain rfl := Option.some.inj H
                go_wp2_with (first | ((with_reducible refine gate_callee (f := 26) rfl ?_); refine goesL_ (some 73) rfl rfl Try.func26 (by kernel_rfl) rfl #[.slice A2 l2.length c2] rfl (by (try simp only [List.map_toArray, List.map_cons, List.map_nil]); first | done | rfl | (simp only [List.length_drop, List.length_take]; rfl)) ?_; (with_reducible refine (laws_toIntSS.calls kj71 _ _ l2 t288 _ ?side1 ?side2 A78.out).mono ?_); (case side1 => repeat (first | exact (Kd.C_below HR2.out HB.out) | (with_reducible refine ca' ?_ _) | (with_reducible refine cn' ?_ _) | (with_reducible refine cd' ?_))); (case side2 => exact HC2.out); rintro e w83 ⟨v289, rfl, ho0, hb⟩; refine ⟨_, rfl, ?_⟩; obtain ⟨D296_, hdl_, hdg_⟩ := dlt_of hb; have D296_lt := am' hdl_; have D296_ge := am' hdg_; clear hdl_ hdg_; have n0_ := am' (Kd.S_elder' (Kd.S_dlt (by (with_reducible repeat (first | apply Kd.S_alloc | apply Kd.S_drewN | apply Kd.S_drew)); exact HO_12.out) D296_lt.out) (Kd.S_base ho0) hb); have n1_ := am' (Kd.R_below (Kd.R_dlt (by (with_reducible repeat (first | apply ra' | apply rn' | apply rw')); exact HO_267000.out) D296_lt.out) hb); have n2_ := am' (Kd.R_below (Kd.R_dlt (by (with_reducible repeat (first | apply ra' | apply rn' | apply rw')); exact HO_272000.out) D296_lt.out) hb); have n3_ := am' (Kd.S_lower (Kd.S_new' (Kd.S_new' (Kd.S_dge ho0 D296_ge.out) (Kd.S_lt (by (with_reducible repeat (first | apply Kd.S_alloc | apply Kd.S_drewN | apply Kd.S_drew)); exact HO_12.out))) (Kd.R_lt (by (with_reducible repeat (first | apply ra' | apply rn' | apply rw')); exact HO_267000.out))) (below_size (by repeat (first | (with_reducible first | exact HB.out | apply ba' | apply bd' | apply be' | refine bs' ?_ GE242.out | refine bs' ?_ GE243.out | refine bs' ?_ GE266.out | refine bs' ?_ GE271.out) | exact HB.out)))); have n4_ := am' (blk_below (g := gb242) (o := .cells #[.slice A0_0 l0_0.length c0_0, .int .i64 a0_1, .int .i64 a0_2] 24 (0, 0)) (by (with_reducible repeat (first | refine kn' ?_ _ | refine kd' ?_ | refine ka' ?_ _)); exact BK242.out) hb); have n5_ := am' (blk_below (g := gb243) (o := .cells #[.slice A1_0 l1_0.length c1_0, .int .i64 a1_1] 45 (0, 0)) (by (with_reducible repeat (first | refine kn' ?_ _ | refine kd' ?_ | refine ka' ?_ _)); exact BK243.out) hb); have n6_ := am' (blk_below (g := gb266) (o := .cells #[.slice Ao42 t261.length co42, .int .i64 t264, .int .i64 t265] 31 (0, 0)) (by (with_reducible repeat (first | refine kn' ?_ _ | refine kd' ?_ | refine ka' ?_ _)); exact BK266.out) hb); have n7_ := am' (blk_below (g := gb271) (o := .cells #[.slice Ao49 t267.length co49, .int .i64 t270] 28 (0, 0)) (by (with_reducible repeat (first | refine kn' ?_ _ | refine kd' ?_ | refine ka' ?_ _)); exact BK271.out) hb); have n8_ := am' (below_step (by repeat (first | (with_reducible first | exact HB.out | apply ba' | apply bd' | apply be' | refine bs' ?_ GE242.out | refine bs' ?_ GE243.out | refine bs' ?_ GE266.out | refine bs' ?_ GE271.out) | exact HB.out)) hb); clear HO_12; clear HO_267000; clear HO_272000; clear BK242; clear BK243; clear BK266; clear BK271; clear HB; have HO_12 := n0_; have HO_267000 := n1_; have HO_272000 := n2_; have HO290 := n3_; have BK242 := n4_; have BK243 := n5_; have BK266 := n6_; have BK271 := n7_; have HB := n8_; clear n0_ n1_ n2_ n3_ n4_ n5_ n6_ n7_ n8_; (try clear hb); (try clear hb2); (try clear hk); (try clear hi); (try clear ho0); obtain ⟨Ao84, co84, eo84⟩ := Kd.S_slice HO290.out; subst eo84) | ((with_reducible refine gate_callee (f := 28) rfl ?_); refine goesL_ (some 74) rfl rfl Try.func28 (by kernel_rfl) rfl #[.slice Ao57 t272.length co57, .slice Ao84 t288.length co84] rfl (by (try simp only [List.map_toArray, List.map_cons, List.map_nil]); first | done | rfl | (simp only [List.length_drop, List.length_take]; rfl)) ?_; (with_reducible refine (laws_eqIntSS.calls kj71 _ _ t272 _ _ t288 false _ ?side1 ?side2 ?side3 ?side4 A79.out).mono ?_); (case side1 => repeat (first | exact (Kd.S_reads' HO_12.out).2.2 | (with_reducible refine ca' ?_ _) | (with_reducible refine cn' ?_ _) | (with_reducible refine cd' ?_))); (case side2 => exact (Kd.S_reads' HO_12.out).2.1); (case side3 => repeat (first | exact (Kd.S_reads' HO290.out).2.2 | (with_reducible refine ca' ?_ _) | (with_reducible refine cn' ?_ _) | (with_reducible refine cd' ?_))); (case side4 => exact (Kd.S_reads' HO290.out).2.1); rintro e w' ⟨rfl, ⟨nd, rfl⟩⟩; refine ⟨_, rfl, ?_⟩))
                go_ret
                exact ⟨by first | rfl | (simp [errW_none, errW_some] <;> rfl) | (simp [*, errW_none, errW_some] <;> rfl), by repeat (first | (with_reducible first | exact HB.out | apply ba' | apply bd' | apply be' | refine bs' ?_ GE242.out | refine bs' ?_ GE243.out | refine bs' ?_ GE266.out | refine bs' ?_ GE271.out) | exact HB.out)⟩
end Go.Proofs.Ytpobeakggacdpaa.C6
