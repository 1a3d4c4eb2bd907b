import Derived.Test.YtamljjfhkolflaaC7zx0
import Derived.Test.YtamljjfhkolflaaC7zx1
import Derived.Test.YtamljjfhkolflaaC7zx6
import Derived.Test.YtamljjfhkolflaaC7zx10
import Derived.Test.YtamljjfhkolflaaC7zAl
namespace Go.Proofs.Ytamljjfhkolflaa.C7
open Go.RowKit Go.Proofs.YtamljjfhkolflaaW.PrintWords Go.Proofs.YtamljjfhkolflaaW.PrintLast Go.Proofs.YtamljjfhkolflaaW.PrintMore Go.Proofs.Ytamljjfhkolflaa.H
attribute [local go_sem] max2_int min2_int max_two min_two max_three min_three max_four min_four
set_option linter.unusedVariables false
set_option linter.unusedSimpArgs false
def laws_eqParty.f (k : Nat) (l0_0 : List Int) (a0_1 : Int) (l1_0 : List Int) (a1_1 : Int) : Option (Bool) := (laws_eqIntS.f k l0_0 l1_0).bind fun t272 => (if t272 = true then (if a0_1 = a1_1 then (some true) else (some false)) else (some false))
set_option maxHeartbeats 8000000 in
set_option maxRecDepth 100000 in
theorem laws_eqParty.calls (k : Nat) (A0_0 : Option Addr) (c0_0 : Nat) (l0_0 : List Int) (a0_1 : Int) (A1_0 : Option Addr) (c1_0 : Nat) (l1_0 : List Int) (a1_1 : Int) (r : Bool) (w : World) (hr0_0 : Kd.C (Kd.int .i64) w A0_0 l0_0.length l0_0) (hc0_0 : l0_0.length ≤ c0_0) (hr1_0 : Kd.C (Kd.int .i64) w A1_0 l1_0.length l1_0) (hc1_0 : l1_0.length ≤ c1_0) (h : laws_eqParty.f k l0_0 a0_1 l1_0 a1_1 = some r) :
  Calls Try.prog 20 #[.agg #[.slice A0_0 l0_0.length c0_0, .int .i64 a0_1], .agg #[.slice A1_0 l1_0.length c1_0, .int .i64 a1_1]] w fun e w' => e = .returned (.bool r) ∧ Below w.heap.size w w' := by
 have hu28 := Try.underlying28
 have HR0_0 := am' hr0_0
 have HC0_0 := am' hc0_0
 clear hr0_0 hc0_0; have HR1_0 := am' hr1_0
 have HC1_0 := am' hc1_0
 clear hr1_0 hc1_0; have HB := am' (Below.refl w.heap.size w)
 have H : ((laws_eqIntS.f k l0_0 l1_0).bind fun t272 => (if t272 = true then (if a0_1 = a1_1 then (some true) else (some false)) else (some false))) = some r := h
 clear h; replace H := Option.bind_eq_some_iff.mp H
 obtain ⟨t272, A30, H⟩ := H
 replace H : (if t272 = true then (if a0_1 = a1_1 then (some true) else (some false)) else (some false)) = some r := H
 have A3 := am' A30
 clear A30; by_cases c4 : t272 = true
 ·
  subst c4; have H1 : (if a0_1 = a1_1 then (some true) else (some false)) = some r := by rw [if_pos rfl] at H; exact H
  clear H; have H := H1; clear H1; by_cases c5 : a0_1 = a1_1
  ·
   rw [if_pos c5] at H; have c5b0 : (a0_1 == a1_1) = true := beq_iff_eq.mpr c5
   have c5b1 : (a0_1 != a1_1) = false := bne_eq_false_iff_eq.mpr c5
   clear c5; obtain rfl := Option.some.inj H
   go_enter Try.func20, Try.ntmps20
   go_wp2_with (first | ((with_reducible refine gate_dst (N := 2) rfl ?_); refine box_event ?hg (N := 2) ?hd (cs := #[.slice A0_0 l0_0.length c0_0, .int .i64 a0_1]) (t := 28) ?hr ?_; (case hd => rfl); (case hg => rfl); (case hr => first | (go_simp; done) | (go_simp; rfl)); intro gb270 hg w6 hbox hb; have n0_ := am' (below_step (by repeat (first | (with_reducible first | exact HB.out | apply ba' | apply bd' | apply be') | exact HB.out)) hb); have n1_ := am' (hbox); have n2_ := am' ((by rw [hg]; exact (below_size (by repeat (first | (with_reducible first | exact HB.out | apply ba' | apply bd' | apply be') | exact HB.out))) : w.heap.size ≤ gb270)); have n3_ := am' ((by rw [hg]; exact (below_size (by repeat (first | (with_reducible first | exact HB.out | apply ba' | apply bd' | apply be') | exact HB.out))) : w.heap.size ≤ gb270)); clear HB; have HB := n0_; have BK270 := n1_; have GW270 := n2_; have GE270 := n3_; clear n0_ n1_ n2_ n3_; clear hb hbox hg) | ((with_reducible refine gate_dst (N := 3) rfl ?_); refine box_event ?hg (N := 3) ?hd (cs := #[.slice A1_0 l1_0.length c1_0, .int .i64 a1_1]) (t := 28) ?hr ?_; (case hd => rfl); (case hg => rfl); (case hr => first | (go_simp; done) | (go_simp; rfl)); intro gb271 hg w7 hbox hb; have n0_ := am' (blk_below (g := gb270) (o := .cells #[.slice A0_0 l0_0.length c0_0, .int .i64 a0_1] 28 (0, 0)) (by (with_reducible repeat (first | refine kn' ?_ _ | refine kd' ?_ | refine ka' ?_ _)); exact BK270.out) hb); have n1_ := am' (below_step (by repeat (first | (with_reducible first | exact HB.out | apply ba' | apply bd' | apply be' | refine bs' ?_ GE270.out) | exact HB.out)) hb); have n2_ := am' (hbox); have n3_ := am' ((by rw [hg]; exact (below_size (by repeat (first | (with_reducible first | exact HB.out | apply ba' | apply bd' | apply be' | refine bs' ?_ GE270.out) | exact HB.out))) : w.heap.size ≤ gb271)); have n4_ := am' ((by rw [hg]; exact (below_size (by repeat (first | (with_reducible first | exact HB.out | apply ba' | apply bd' | apply be' | refine bs' ?_ GE270.out) | exact HB.out))) : w.heap.size ≤ gb271)); have n5_ := am' ((by rw [hg]; exact Nat.ne_of_lt (blk_lt (g := gb270) (o := .cells #[.slice A0_0 l0_0.length c0_0, .int .i64 a0_1] 28 (0, 0)) (by (with_reducible repeat (first | refine kn' ?_ _ | refine kd' ?_ | refine ka' ?_ _)); exact BK270.out)) : gb270 ≠ gb271)); have n6_ := am' ((by rw [hg]; exact Nat.ne_of_gt (blk_lt (g := gb270) (o := .cells #[.slice A0_0 l0_0.length c0_0, .int .i64 a0_1] 28 (0, 0)) (by (with_reducible repeat (first | refine kn' ?_ _ | refine kd' ?_ | refine ka' ?_ _)); exact BK270.out)) : gb271 ≠ gb270)); clear BK270; clear HB; have BK270 := n0_; have HB := n1_; have BK271 := n2_; have GW271 := n3_; have GE271 := n4_; have NB270_271 := n5_; have NB271_270 := n6_; clear n0_ n1_ n2_ n3_ n4_ n5_ n6_; clear hb hbox hg; have hnb8 := NB270_271.out; have hnc8 := NB271_270.out; have hcz9_0 : w7.cell? ⟨gb270, 0, none⟩ = some (.slice A0_0 l0_0.length c0_0) := (blk_cell BK270.out 0).trans rfl; have hcz9_1 : w7.cell? ⟨gb270, 1, none⟩ = some (.int .i64 a0_1) := (blk_cell BK270.out 1).trans rfl; have hfz9_0 := blk_frozen BK270.out 0; have hfz9_1 := blk_frozen BK270.out 1; have hcz10_0 : w7.cell? ⟨gb271, 0, none⟩ = some (.slice A1_0 l1_0.length c1_0) := (blk_cell BK271.out 0).trans rfl; have hcz10_1 : w7.cell? ⟨gb271, 1, none⟩ = some (.int .i64 a1_1) := (blk_cell BK271.out 1).trans rfl; have hfz10_0 := blk_frozen BK271.out 0; have hfz10_1 := blk_frozen BK271.out 1) | ((with_reducible refine gate_callee (f := 31) rfl ?_); refine goesL_ (some 9) rfl rfl Try.func31 (by kernel_rfl) rfl #[.slice A0_0 l0_0.length c0_0, .slice A1_0 l1_0.length c1_0] rfl (by (try simp only [List.map_toArray, List.map_cons, List.map_nil]); first | done | rfl | (simp only [List.length_drop, List.length_take]; rfl)) ?_; (with_reducible refine (laws_eqIntS.calls k _ _ l0_0 _ _ l1_0 true _ ?side1 ?side2 ?side3 ?side4 A3.out).mono ?_); (case side1 => repeat (first | exact (Kd.C_below HR0_0.out HB.out) | (with_reducible refine ca' ?_ _) | (with_reducible refine cn' ?_ _) | (with_reducible refine cd' ?_))); (case side2 => exact HC0_0.out); (case side3 => repeat (first | exact (Kd.C_below HR1_0.out HB.out) | (with_reducible refine ca' ?_ _) | (with_reducible refine cn' ?_ _) | (with_reducible refine cd' ?_))); (case side4 => exact HC1_0.out); rintro e w' ⟨rfl, ⟨nd, rfl⟩⟩; refine ⟨_, rfl, ?_⟩))
   go_ret
   exact ⟨by first | rfl | (simp [errW_none, errW_some] <;> rfl) | (simp [*, errW_none, errW_some] <;> rfl), by repeat (first | (with_reducible first | exact HB.out | apply ba' | apply bd' | apply be' | refine bs' ?_ GE270.out | refine bs' ?_ GE271.out) | exact HB.out)⟩
  ·
   rw [if_neg c5] at H; have c5b0 : (a0_1 == a1_1) = false := beq_eq_false_iff_ne.mpr c5
   have c5b1 : (a0_1 != a1_1) = true := bne_iff_ne.mpr c5
   obtain rfl := Option.some.inj H
   go_enter Try.func20, Try.ntmps20
   go_wp2_with (first | ((with_reducible refine gate_dst (N := 2) rfl ?_); refine box_event ?hg (N := 2) ?hd (cs := #[.slice A0_0 l0_0.length c0_0, .int .i64 a0_1]) (t := 28) ?hr ?_; (case hd => rfl); (case hg => rfl); (case hr => first | (go_simp; done) | (go_simp; rfl)); intro gb270 hg w11 hbox hb; have n0_ := am' (below_step (by repeat (first | (with_reducible first | exact HB.out | apply ba' | apply bd' | apply be') | exact HB.out)) hb); have n1_ := am' (hbox); have n2_ := am' ((by rw [hg]; exact (below_size (by repeat (first | (with_reducible first | exact HB.out | apply ba' | apply bd' | apply be') | exact HB.out))) : w.heap.size ≤ gb270)); have n3_ := am' ((by rw [hg]; exact (below_size (by repeat (first | (with_reducible first | exact HB.out | apply ba' | apply bd' | apply be') | exact HB.out))) : w.heap.size ≤ gb270)); clear HB; have HB := n0_; have BK270 := n1_; have GW270 := n2_; have GE270 := n3_; clear n0_ n1_ n2_ n3_; clear hb hbox hg) | ((with_reducible refine gate_dst (N := 3) rfl ?_); refine box_event ?hg (N := 3) ?hd (cs := #[.slice A1_0 l1_0.length c1_0, .int .i64 a1_1]) (t := 28) ?hr ?_; (case hd => rfl); (case hg => rfl); (case hr => first | (go_simp; done) | (go_simp; rfl)); intro gb271 hg w12 hbox hb; have n0_ := am' (blk_below (g := gb270) (o := .cells #[.slice A0_0 l0_0.length c0_0, .int .i64 a0_1] 28 (0, 0)) (by (with_reducible repeat (first | refine kn' ?_ _ | refine kd' ?_ | refine ka' ?_ _)); exact BK270.out) hb); have n1_ := am' (below_step (by repeat (first | (with_reducible first | exact HB.out | apply ba' | apply bd' | apply be' | refine bs' ?_ GE270.out) | exact HB.out)) hb); have n2_ := am' (hbox); have n3_ := am' ((by rw [hg]; exact (below_size (by repeat (first | (with_reducible first | exact HB.out | apply ba' | apply bd' | apply be' | refine bs' ?_ GE270.out) | exact HB.out))) : w.heap.size ≤ gb271)); have n4_ := am' ((by rw [hg]; exact (below_size (by repeat (first | (with_reducible first | exact HB.out | apply ba' | apply bd' | apply be' | refine bs' ?_ GE270.out) | exact HB.out))) : w.heap.size ≤ gb271)); have n5_ := am' ((by rw [hg]; exact Nat.ne_of_lt (blk_lt (g := gb270) (o := .cells #[.slice A0_0 l0_0.length c0_0, .int .i64 a0_1] 28 (0, 0)) (by (with_reducible repeat (first | refine kn' ?_ _ | refine kd' ?_ | refine ka' ?_ _)); exact BK270.out)) : gb270 ≠ gb271)); have n6_ := am' ((by rw [hg]; exact Nat.ne_of_gt (blk_lt (g := gb270) (o := .cells #[.slice A0_0 l0_0.length c0_0, .int .i64 a0_1] 28 (0, 0)) (by (with_reducible repeat (first | refine kn' ?_ _ | refine kd' ?_ | refine ka' ?_ _)); exact BK270.out)) : gb271 ≠ gb270)); clear BK270; clear HB; have BK270 := n0_; have HB := n1_; have BK271 := n2_; have GW271 := n3_; have GE271 := n4_; have NB270_271 := n5_; have NB271_270 := n6_; clear n0_ n1_ n2_ n3_ n4_ n5_ n6_; clear hb hbox hg; have hnb13 := NB270_271.out; have hnc13 := NB271_270.out; have hcz14_0 : w12.cell? ⟨gb270, 0, none⟩ = some (.slice A0_0 l0_0.length c0_0) := (blk_cell BK270.out 0).trans rfl; have hcz14_1 : w12.cell? ⟨gb270, 1, none⟩ = some (.int .i64 a0_1) := (blk_cell BK270.out 1).trans rfl; have hfz14_0 := blk_frozen BK270.out 0; have hfz14_1 := blk_frozen BK270.out 1; have hcz15_0 : w12.cell? ⟨gb271, 0, none⟩ = some (.slice A1_0 l1_0.length c1_0) := (blk_cell BK271.out 0).trans rfl; have hcz15_1 : w12.cell? ⟨gb271, 1, none⟩ = some (.int .i64 a1_1) := (blk_cell BK271.out 1).trans rfl; have hfz15_0 := blk_frozen BK271.out 0; have hfz15_1 := blk_frozen BK271.out 1) | ((with_reducible refine gate_callee (f := 31) rfl ?_); refine goesL_ (some 9) rfl rfl Try.func31 (by kernel_rfl) rfl #[.slice A0_0 l0_0.length c0_0, .slice A1_0 l1_0.length c1_0] rfl (by (try simp only [List.map_toArray, List.map_cons, List.map_nil]); first | done | rfl | (simp only [List.length_drop, List.length_take]; rfl)) ?_; (with_reducible refine (laws_eqIntS.calls k _ _ l0_0 _ _ l1_0 true _ ?side1 ?side2 ?side3 ?side4 A3.out).mono ?_); (case side1 => repeat (first | exact (Kd.C_below HR0_0.out HB.out) | (with_reducible refine ca' ?_ _) | (with_reducible refine cn' ?_ _) | (with_reducible refine cd' ?_))); (case side2 => exact HC0_0.out); (case side3 => repeat (first | exact (Kd.C_below HR1_0.out HB.out) | (with_reducible refine ca' ?_ _) | (with_reducible refine cn' ?_ _) | (with_reducible refine cd' ?_))); (case side4 => exact HC1_0.out); rintro e w' ⟨rfl, ⟨nd, rfl⟩⟩; refine ⟨_, rfl, ?_⟩))
   go_ret
   exact ⟨by first | rfl | (simp [errW_none, errW_some] <;> rfl) | (simp [*, errW_none, errW_some] <;> rfl), by repeat (first | (with_reducible first | exact HB.out | apply ba' | apply bd' | apply be' | refine bs' ?_ GE270.out | refine bs' ?_ GE271.out) | exact HB.out)⟩
 ·
  replace c4 := Bool.eq_false_iff.mpr c4
  subst c4; have H1 : (some false) = some r := by rw [if_neg (show ¬ (false = true) by decide)] at H; exact H
  clear H; have H := H1; clear H1; obtain rfl := Option.some.inj H
  go_enter Try.func20, Try.ntmps20
  go_wp2_with (first | ((with_reducible refine gate_dst (N := 2) rfl ?_); refine box_event ?hg (N := 2) ?hd (cs := #[.slice A0_0 l0_0.length c0_0, .int .i64 a0_1]) (t := 28) ?hr ?_; (case hd => rfl); (case hg => rfl); (case hr => first | (go_simp; done) | (go_simp; rfl)); intro gb270 hg w16 hbox hb; have n0_ := am' (below_step (by repeat (first | (with_reducible first | exact HB.out | apply ba' | apply bd' | apply be') | exact HB.out)) hb); have n1_ := am' (hbox); have n2_ := am' ((by rw [hg]; exact (below_size (by repeat (first | (with_reducible first | exact HB.out | apply ba' | apply bd' | apply be') | exact HB.out))) : w.heap.size ≤ gb270)); have n3_ := am' ((by rw [hg]; exact (below_size (by repeat (first | (with_reducible first | exact HB.out | apply ba' | apply bd' | apply be') | exact HB.out))) : w.heap.size ≤ gb270)); clear HB; have HB := n0_; have BK270 := n1_; have GW270 := n2_; have GE270 := n3_; clear n0_ n1_ n2_ n3_; clear hb hbox hg) | ((with_reducible refine gate_dst (N := 3) rfl ?_); refine box_event ?hg (N := 3) ?hd (cs := #[.slice A1_0 l1_0.length c1_0, .int .i64 a1_1]) (t := 28) ?hr ?_; (case hd => rfl); (case hg => rfl); (case hr => first | (go_simp; done) | (go_simp; rfl)); intro gb271 hg w17 hbox hb; have n0_ := am' (blk_below (g := gb270) (o := .cells #[.slice A0_0 l0_0.length c0_0, .int .i64 a0_1] 28 (0, 0)) (by (with_reducible repeat (first | refine kn' ?_ _ | refine kd' ?_ | refine ka' ?_ _)); exact BK270.out) hb); have n1_ := am' (below_step (by repeat (first | (with_reducible first | exact HB.out | apply ba' | apply bd' | apply be' | refine bs' ?_ GE270.out) | exact HB.out)) hb); have n2_ := am' (hbox); have n3_ := am' ((by rw [hg]; exact (below_size (by repeat (first | (with_reducible first | exact HB.out | apply ba' | apply bd' | apply be' | refine bs' ?_ GE270.out) | exact HB.out))) : w.heap.size ≤ gb271)); have n4_ := am' ((by rw [hg]; exact (below_size (by repeat (first | (with_reducible first | exact HB.out | apply ba' | apply bd' | apply be' | refine bs' ?_ GE270.out) | exact HB.out))) : w.heap.size ≤ gb271)); have n5_ := am' ((by rw [hg]; exact Nat.ne_of_lt (blk_lt (g := gb270) (o := .cells #[.slice A0_0 l0_0.length c0_0, .int .i64 a0_1] 28 (0, 0)) (by (with_reducible repeat (first | refine kn' ?_ _ | refine kd' ?_ | refine ka' ?_ _)); exact BK270.out)) : gb270 ≠ gb271)); have n6_ := am' ((by rw [hg]; exact Nat.ne_of_gt (blk_lt (g := gb270) (o := .cells #[.slice A0_0 l0_0.length c0_0, .int .i64 a0_1] 28 (0, 0)) (by (with_reducible repeat (first | refine kn' ?_ _ | refine kd' ?_ | refine ka' ?_ _)); exact BK270.out)) : gb271 ≠ gb270)); clear BK270; clear HB; have BK270 := n0_; have HB := n1_; have BK271 := n2_; have GW271 := n3_; have GE271 := n4_; have NB270_271 := n5_; have NB271_270 := n6_; clear n0_ n1_ n2_ n3_ n4_ n5_ n6_; clear hb hbox hg; have hnb18 := NB270_271.out; have hnc18 := NB271_270.out; have hcz19_0 : w17.cell? ⟨gb270, 0, none⟩ = some (.slice A0_0 l0_0.length c0_0) := (blk_cell BK270.out 0).trans rfl; have hcz19_1 : w17.cell? ⟨gb270, 1, none⟩ = some (.int .i64 a0_1) := (blk_cell BK270.out 1).trans rfl; have hfz19_0 := blk_frozen BK270.out 0; have hfz19_1 := blk_frozen BK270.out 1; have hcz20_0 : w17.cell? ⟨gb271, 0, none⟩ = some (.slice A1_0 l1_0.length c1_0) := (blk_cell BK271.out 0).trans rfl; have hcz20_1 : w17.cell? ⟨gb271, 1, none⟩ = some (.int .i64 a1_1) := (blk_cell BK271.out 1).trans rfl; have hfz20_0 := blk_frozen BK271.out 0; have hfz20_1 := blk_frozen BK271.out 1) | ((with_reducible refine gate_callee (f := 31) rfl ?_); refine goesL_ (some 9) rfl rfl Try.func31 (by kernel_rfl) rfl #[.slice A0_0 l0_0.length c0_0, .slice A1_0 l1_0.length c1_0] rfl (by (try simp only [List.map_toArray, List.map_cons, List.map_nil]); first | done | rfl | (simp only [List.length_drop, List.length_take]; rfl)) ?_; (with_reducible refine (laws_eqIntS.calls k _ _ l0_0 _ _ l1_0 false _ ?side1 ?side2 ?side3 ?side4 A3.out).mono ?_); (case side1 => repeat (first | exact (Kd.C_below HR0_0.out HB.out) | (with_reducible refine ca' ?_ _) | (with_reducible refine cn' ?_ _) | (with_reducible refine cd' ?_))); (case side2 => exact HC0_0.out); (case side3 => repeat (first | exact (Kd.C_below HR1_0.out HB.out) | (with_reducible refine ca' ?_ _) | (with_reducible refine cn' ?_ _) | (with_reducible refine cd' ?_))); (case side4 => exact HC1_0.out); rintro e w' ⟨rfl, ⟨nd, rfl⟩⟩; refine ⟨_, rfl, ?_⟩))
  go_ret
  exact ⟨by first | rfl | (simp [errW_none, errW_some] <;> rfl) | (simp [*, errW_none, errW_some] <;> rfl), by repeat (first | (with_reducible first | exact HB.out | apply ba' | apply bd' | apply be' | refine bs' ?_ GE270.out | refine bs' ?_ GE271.out) | exact HB.out)⟩
mutual
def laws_FnExactReachedIn.j0 : Nat → Int → List Int → Int → Option (Bool)
 | 0, _, _, _ => none
 | k + 1, x1, x274000, x274001 => (laws_toParty.f k x274000 x274001).bind fun bt275 => ((spec_ReachedIn.f k bt275.1 bt275.2 x1).bind fun bt279 => ((laws_toParty.f k x274000 x274001).bind fun bt281 => ((impl_ReachedIn.f k bt281.1 bt281.2 x1).bind fun bt286 => (if bt286.1 = bt279.1 then (laws_FnExactReachedIn.j1 k (bt286.2 != bt279.2) x274000 x274001 bt281.1 bt281.2) else (laws_FnExactReachedIn.j1 k true x274000 x274001 bt281.1 bt281.2)))))
def laws_FnExactReachedIn.j1 : Nat → Bool → List Int → Int → List Int → Int → Option (Bool)
 | 0, _, _, _, _, _ => none
 | k + 1, x38, x274000, x274001, x286000, x286001 => if x38 = true then (some false) else (laws_FnExactReachedIn.j2 k x274000 x274001 x286000 x286001)
def laws_FnExactReachedIn.j2 : Nat → List Int → Int → List Int → Int → Option (Bool)
 | 0, _, _, _, _ => none
 | k + 1, x274000, x274001, x286000, x286001 => (laws_toParty.f k x274000 x274001).bind fun bt288 => ((laws_eqParty.f k x286000 x286001 bt288.1 bt288.2).bind fun t292 => (if t292 = true then (some true) else (some false)))
end
def laws_FnExactReachedIn.f (k : Nat) (l0_0 : List Int) (a0_1 : Int) (a1 : Int) : Option (Bool) := (laws_szParty.f l0_0 a0_1 1048576).bind fun t274 => (if t274 < 0 then (some true) else (laws_FnExactReachedIn.j0 k a1 l0_0 a0_1))
set_option maxHeartbeats 8000000 in
set_option maxRecDepth 100000 in
theorem laws_FnExactReachedIn.calls (k : Nat) (A0_0 : Option Addr) (c0_0 : Nat) (l0_0 : List Int) (a0_1 : Int) (a1 : Int) (r : Bool) (w : World) (hr0_0 : Kd.C (Kd.int .i64) w A0_0 l0_0.length l0_0) (hc0_0 : l0_0.length ≤ c0_0) (h : laws_FnExactReachedIn.f k l0_0 a0_1 a1 = some r) :
  Calls Try.prog 3 #[.agg #[.slice A0_0 l0_0.length c0_0, .int .i64 a0_1], .int .i64 a1] w fun e w' => e = .returned (.bool r) ∧ Below w.heap.size w w' := by
 have hu24 := Try.underlying24
 have hu28 := Try.underlying28
 have HR0_0 := am' hr0_0
 have HC0_0 := am' hc0_0
 clear hr0_0 hc0_0; have HB := am' (Below.refl w.heap.size w)
 have H : ((laws_szParty.f l0_0 a0_1 1048576).bind fun t274 => (if t274 < 0 then (some true) else (laws_FnExactReachedIn.j0 k a1 l0_0 a0_1))) = some r := h
 clear h; replace H := Option.bind_eq_some_iff.mp H
 obtain ⟨t274, A30, H⟩ := H
 replace H : (if t274 < 0 then (some true) else (laws_FnExactReachedIn.j0 k a1 l0_0 a0_1)) = some r := H
 have A3 := am' A30
 clear A30; have HC4 := am' H
 clear H; go_enter Try.func3, Try.ntmps3
 go_upto_if 15 with (first | ((with_reducible refine gate_dst (N := 2) rfl ?_); refine box_event ?hg (N := 2) ?hd (cs := #[.slice A0_0 l0_0.length c0_0, .int .i64 a0_1]) (t := 24) ?hr ?_; (case hd => rfl); (case hg => rfl); (case hr => first | (go_simp; done) | (go_simp; rfl)); intro gb273 hg w5 hbox hb; have n0_ := am' (below_step (by repeat (first | (with_reducible first | exact HB.out | apply ba' | apply bd' | apply be') | exact HB.out)) hb); have n1_ := am' (hbox); have n2_ := am' ((by rw [hg]; exact (below_size (by repeat (first | (with_reducible first | exact HB.out | apply ba' | apply bd' | apply be') | exact HB.out))) : w.heap.size ≤ gb273)); have n3_ := am' ((by rw [hg]; exact (below_size (by repeat (first | (with_reducible first | exact HB.out | apply ba' | apply bd' | apply be') | exact HB.out))) : w.heap.size ≤ gb273)); clear HB; have HB := n0_; have BK273 := n1_; have GW273 := n2_; have GE273 := n3_; clear n0_ n1_ n2_ n3_; clear hb hbox hg; have hcz6_0 : w5.cell? ⟨gb273, 0, none⟩ = some (.slice A0_0 l0_0.length c0_0) := (blk_cell BK273.out 0).trans rfl; have hcz6_1 : w5.cell? ⟨gb273, 1, none⟩ = some (.int .i64 a0_1) := (blk_cell BK273.out 1).trans rfl; have hfz6_0 := blk_frozen BK273.out 0; have hfz6_1 := blk_frozen BK273.out 1) | ((with_reducible refine gate_callee (f := 16) rfl ?_); refine goesL_ (some 13) rfl rfl Try.func16 (by kernel_rfl) rfl #[.agg #[.slice A0_0 l0_0.length c0_0, .int .i64 a0_1], .int .i64 1048576] rfl (by (try simp only [List.map_toArray, List.map_cons, List.map_nil]); first | done | rfl | (simp only [List.length_drop, List.length_take]; rfl)) ?_; (with_reducible refine (laws_szParty.calls _ _ l0_0 a0_1 1048576 t274 _ ?side1 ?side2 A3.out).mono ?_); (case side1 => repeat (first | exact (Kd.C_below HR0_0.out HB.out) | (with_reducible refine ca' ?_ _) | (with_reducible refine cn' ?_ _) | (with_reducible refine cd' ?_))); (case side2 => exact HC0_0.out); rintro e w7 ⟨rfl, hb⟩; refine ⟨_, rfl, ?_⟩; have n0_ := am' (blk_below (g := gb273) (o := .cells #[.slice A0_0 l0_0.length c0_0, .int .i64 a0_1] 24 (0, 0)) (by (with_reducible repeat (first | refine kn' ?_ _ | refine kd' ?_ | refine ka' ?_ _)); exact BK273.out) hb); have n1_ := am' (below_step (by repeat (first | (with_reducible first | exact HB.out | apply ba' | apply bd' | apply be' | refine bs' ?_ GE273.out) | exact HB.out)) hb); clear BK273; clear HB; have BK273 := n0_; have HB := n1_; clear n0_ n1_; (try clear hb); (try clear hb2); (try clear hk); (try clear hi)))
 (try simp only [Act.put, sa', sb', sc'])
 go_cut [] (fun wc => ∃ (kq : Nat), Aside0 (laws_FnExactReachedIn.j0 kq a1 l0_0 a0_1 = some r) ∧ Aside0 (kq ≤ k) ∧ Aside0 (wc.heap[gb273]? = some (.cells #[(.slice A0_0 l0_0.length c0_0), .int .i64 a0_1] 24 (0, 0))) ∧ Aside0 (Below w.heap.size w wc))
 case first =>
  have H := HC4.out
  clear HC4; by_cases c8 : t274 < 0
  ·
   rw [if_pos c8] at H; have c8b0 : decide (t274 < 0) = true := decide_eq_true c8
   clear c8; (first | rw [c8b0] | (simp only [i64_w, i32_w]; rw [c8b0]) | skip)
   obtain rfl := Option.some.inj H
   go_wp2
   go_ret
   exact ⟨by first | rfl | (simp [errW_none, errW_some] <;> rfl) | (simp [*, errW_none, errW_some] <;> rfl), by repeat (first | (with_reducible first | exact HB.out | apply ba' | apply bd' | apply be' | refine bs' ?_ GE273.out) | exact HB.out)⟩
  ·
   rw [if_neg c8] at H; have c8b0 : decide (t274 < 0) = false := decide_eq_false c8
   clear c8; (first | rw [c8b0] | (simp only [i64_w, i32_w]; rw [c8b0]) | skip)
   have H' := am' H
   clear H; go_wp2
   go_meet
   case rel => exact ⟨_, H', ⟨by first | omega | exact Nat.le_refl _⟩, ⟨by (with_reducible repeat (first | refine kn' ?_ _ | refine kd' ?_ | refine ka' ?_ _)); exact BK273.out⟩, ⟨by repeat (first | (with_reducible first | exact HB.out | apply ba' | apply bd' | apply be' | refine bs' ?_ GE273.out) | exact HB.out)⟩⟩
 case rest =>
  clear HC4; try clear c1
  try clear p2
  try clear c3
  try clear c8
  try clear c8b0
  try clear hcz6_0
  try clear hcz6_1
  try clear hfz6_0
  try clear hfz6_1
  obtain ⟨kq, HA, HJ3, BK273, HB⟩ := hcut
  cases kq with
  | zero => exact absurd HA.out (by simp [laws_FnExactReachedIn.j0])
  | succ kj3 =>
   have H := HA.out
   clear HA; simp only [laws_FnExactReachedIn.j0] at H
   replace H := Option.bind_eq_some_iff.mp H
   obtain ⟨⟨t275, t278⟩, A90, H⟩ := H
   replace H : ((spec_ReachedIn.f kj3 t275 t278 a1).bind fun bt279 => ((laws_toParty.f kj3 l0_0 a0_1).bind fun bt281 => ((impl_ReachedIn.f kj3 bt281.1 bt281.2 a1).bind fun bt286 => (if bt286.1 = bt279.1 then (laws_FnExactReachedIn.j1 kj3 (bt286.2 != bt279.2) l0_0 a0_1 bt281.1 bt281.2) else (laws_FnExactReachedIn.j1 kj3 true l0_0 a0_1 bt281.1 bt281.2))))) = some r := H
   have A9 := am' A90
   clear A90; replace H := Option.bind_eq_some_iff.mp H
   obtain ⟨⟨t279, t280⟩, A100, H⟩ := H
   replace H : ((laws_toParty.f kj3 l0_0 a0_1).bind fun bt281 => ((impl_ReachedIn.f kj3 bt281.1 bt281.2 a1).bind fun bt286 => (if bt286.1 = t279 then (laws_FnExactReachedIn.j1 kj3 (bt286.2 != t280) l0_0 a0_1 bt281.1 bt281.2) else (laws_FnExactReachedIn.j1 kj3 true l0_0 a0_1 bt281.1 bt281.2)))) = some r := H
   have A10 := am' A100
   clear A100; replace H := Option.bind_eq_some_iff.mp H
   obtain ⟨⟨t281, t284⟩, A110, H⟩ := H
   replace H : ((impl_ReachedIn.f kj3 t281 t284 a1).bind fun bt286 => (if bt286.1 = t279 then (laws_FnExactReachedIn.j1 kj3 (bt286.2 != t280) l0_0 a0_1 t281 t284) else (laws_FnExactReachedIn.j1 kj3 true l0_0 a0_1 t281 t284))) = some r := H
   have A11 := am' A110
   clear A110; replace H := Option.bind_eq_some_iff.mp H
   obtain ⟨⟨t286, t287⟩, A120, H⟩ := H
   replace H : (if t286 = t279 then (laws_FnExactReachedIn.j1 kj3 (t287 != t280) l0_0 a0_1 t281 t284) else (laws_FnExactReachedIn.j1 kj3 true l0_0 a0_1 t281 t284)) = some r := H
   have A12 := am' A120
   clear A120; have HC13 := am' H
   clear H; have hcz14_0 : wc.cell? ⟨gb273, 0, none⟩ = some (.slice A0_0 l0_0.length c0_0) := (blk_cell BK273.out 0).trans rfl
   have hcz14_1 : wc.cell? ⟨gb273, 1, none⟩ = some (.int .i64 a0_1) := (blk_cell BK273.out 1).trans rfl
   have hfz14_0 := blk_frozen BK273.out 0
   have hfz14_1 := blk_frozen BK273.out 1
   go_upto_region 8 with (first | ((with_reducible refine gate_callee (f := 18) rfl ?_); refine goesL_ (some 18) rfl rfl Try.func18 (by kernel_rfl) rfl #[.agg #[.slice A0_0 l0_0.length c0_0, .int .i64 a0_1]] rfl (by (try simp only [List.map_toArray, List.map_cons, List.map_nil]); first | done | rfl | (simp only [List.length_drop, List.length_take]; rfl)) ?_; (with_reducible refine (laws_toParty.calls kj3 _ _ l0_0 a0_1 t275 t278 _ ?side1 ?side2 A9.out).mono ?_); (case side1 => repeat (first | exact (Kd.C_below HR0_0.out HB.out) | (with_reducible refine ca' ?_ _) | (with_reducible refine cn' ?_ _) | (with_reducible refine cd' ?_))); (case side2 => exact HC0_0.out); rintro e w15 ⟨v276, rfl, ho0, hb⟩; refine ⟨_, rfl, ?_⟩; obtain ⟨D293_, hdl_, hdg_⟩ := dlt_of hb; have D293_lt := am' hdl_; have D293_ge := am' hdg_; clear hdl_ hdg_; have n0_ := am' (Kd.R_lower (Kd.R_dge ho0 D293_ge.out) (below_size (by repeat (first | (with_reducible first | exact HB.out | apply ba' | apply bd' | apply be' | refine bs' ?_ GE273.out) | exact HB.out)))); have n1_ := am' (blk_below (g := gb273) (o := .cells #[.slice A0_0 l0_0.length c0_0, .int .i64 a0_1] 24 (0, 0)) (by (with_reducible repeat (first | refine kn' ?_ _ | refine kd' ?_ | refine ka' ?_ _)); exact BK273.out) hb); have n2_ := am' (below_step (by repeat (first | (with_reducible first | exact HB.out | apply ba' | apply bd' | apply be' | refine bs' ?_ GE273.out) | exact HB.out)) hb); clear BK273; clear HB; have HO277 := n0_; have BK273 := n1_; have HB := n2_; clear n0_ n1_ n2_; (try clear hb); (try clear hb2); (try clear hk); (try clear hi); (try clear ho0); obtain ⟨Ao16, co16, eo16⟩ := Kd.R_slice HO277.out; subst eo16) | ((with_reducible refine gate_callee (f := 17) rfl ?_); refine goesL_ (some 20) rfl rfl Try.func17 (by kernel_rfl) rfl #[.agg #[.slice Ao16 t275.length co16, .int .i64 t278], .int .i64 a1] rfl (by (try simp only [List.map_toArray, List.map_cons, List.map_nil]); first | done | rfl | (simp only [List.length_drop, List.length_take]; rfl)) ?_; (with_reducible refine (spec_ReachedIn.calls kj3 _ _ t275 t278 a1 t279 t280 _ ?side1 ?side2 A10.out).mono ?_); (case side1 => repeat (first | exact (Kd.R_reads' HO277.out).2.2 | (with_reducible refine ca' ?_ _) | (with_reducible refine cn' ?_ _) | (with_reducible refine cd' ?_))); (case side2 => exact (Kd.R_reads' HO277.out).2.1); rintro e w17 ⟨rfl, hb⟩; refine ⟨_, rfl, ?_⟩; have n0_ := am' (Kd.R_below (by (with_reducible repeat (first | apply ra' | apply rn' | apply rw')); exact HO277.out) hb); have n1_ := am' (blk_below (g := gb273) (o := .cells #[.slice A0_0 l0_0.length c0_0, .int .i64 a0_1] 24 (0, 0)) (by (with_reducible repeat (first | refine kn' ?_ _ | refine kd' ?_ | refine ka' ?_ _)); exact BK273.out) hb); have n2_ := am' (below_step (by repeat (first | (with_reducible first | exact HB.out | apply ba' | apply bd' | apply be' | refine bs' ?_ GE273.out) | exact HB.out)) hb); clear HO277; clear BK273; clear HB; have HO277 := n0_; have BK273 := n1_; have HB := n2_; clear n0_ n1_ n2_; (try clear hb); (try clear hb2); (try clear hk); (try clear hi); have hcz18_0 : w17.cell? ⟨gb273, 0, none⟩ = some (.slice A0_0 l0_0.length c0_0) := (blk_cell BK273.out 0).trans rfl; have hcz18_1 : w17.cell? ⟨gb273, 1, none⟩ = some (.int .i64 a0_1) := (blk_cell BK273.out 1).trans rfl; have hfz18_0 := blk_frozen BK273.out 0; have hfz18_1 := blk_frozen BK273.out 1) | ((with_reducible refine gate_callee (f := 18) rfl ?_); refine goesL_ (some 24) rfl rfl Try.func18 (by kernel_rfl) rfl #[.agg #[.slice A0_0 l0_0.length c0_0, .int .i64 a0_1]] rfl (by (try simp only [List.map_toArray, List.map_cons, List.map_nil]); first | done | rfl | (simp only [List.length_drop, List.length_take]; rfl)) ?_; (with_reducible refine (laws_toParty.calls kj3 _ _ l0_0 a0_1 t281 t284 _ ?side1 ?side2 A11.out).mono ?_); (case side1 => repeat (first | exact (Kd.C_below HR0_0.out HB.out) | (with_reducible refine ca' ?_ _) | (with_reducible refine cn' ?_ _) | (with_reducible refine cd' ?_))); (case side2 => exact HC0_0.out); rintro e w19 ⟨v282, rfl, ho0, hb⟩; refine ⟨_, rfl, ?_⟩; obtain ⟨D294_, hdl_, hdg_⟩ := dlt_of hb; have D294_lt := am' hdl_; have D294_ge := am' hdg_; clear hdl_ hdg_; have n0_ := am' (Kd.R_elder' (Kd.R_dlt (by (with_reducible repeat (first | apply ra' | apply rn' | apply rw')); exact HO277.out) D294_lt.out) (Kd.R_base ho0) hb); have n1_ := am' (Kd.R_lower (Kd.R_new' (Kd.R_dge ho0 D294_ge.out) (Kd.R_lt (by (with_reducible repeat (first | apply ra' | apply rn' | apply rw')); exact HO277.out))) (below_size (by repeat (first | (with_reducible first | exact HB.out | apply ba' | apply bd' | apply be' | refine bs' ?_ GE273.out) | exact HB.out)))); have n2_ := am' (blk_below (g := gb273) (o := .cells #[.slice A0_0 l0_0.length c0_0, .int .i64 a0_1] 24 (0, 0)) (by (with_reducible repeat (first | refine kn' ?_ _ | refine kd' ?_ | refine ka' ?_ _)); exact BK273.out) hb); have n3_ := am' (below_step (by repeat (first | (with_reducible first | exact HB.out | apply ba' | apply bd' | apply be' | refine bs' ?_ GE273.out) | exact HB.out)) hb); clear HO277; clear BK273; clear HB; have HO277 := n0_; have HO283 := n1_; have BK273 := n2_; have HB := n3_; clear n0_ n1_ n2_ n3_; (try clear hb); (try clear hb2); (try clear hk); (try clear hi); (try clear ho0)) | ((with_reducible refine gate_dst (N := 8) rfl ?_); refine box_event ?hg (N := 8) ?hd (cs := #[.slice none 0 0, .int .i64 0]) (t := 28) ?hr ?_; (case hd => rfl); (case hg => rfl); (case hr => first | (go_simp; done) | (go_simp; rfl)); intro gb285 hg w20 hbox hb; have n0_ := am' (Kd.R_below (by (with_reducible repeat (first | apply ra' | apply rn' | apply rw')); exact HO277.out) hb); have n1_ := am' (Kd.R_below (by (with_reducible repeat (first | apply ra' | apply rn' | apply rw')); exact HO283.out) hb); have n2_ := am' (blk_below (g := gb273) (o := .cells #[.slice A0_0 l0_0.length c0_0, .int .i64 a0_1] 24 (0, 0)) (by (with_reducible repeat (first | refine kn' ?_ _ | refine kd' ?_ | refine ka' ?_ _)); exact BK273.out) hb); have n3_ := am' (below_step (by repeat (first | (with_reducible first | exact HB.out | apply ba' | apply bd' | apply be' | refine bs' ?_ GE273.out) | exact HB.out)) hb); have n4_ := am' (hbox); have n5_ := am' ((by rw [hg]; exact (below_size (by repeat (first | (with_reducible first | exact HB.out | apply ba' | apply bd' | apply be' | refine bs' ?_ GE273.out) | exact HB.out))) : w.heap.size ≤ gb285)); have n6_ := am' ((by rw [hg]; exact (below_size (by repeat (first | (with_reducible first | exact HB.out | apply ba' | apply bd' | apply be' | refine bs' ?_ GE273.out) | exact HB.out))) : w.heap.size ≤ gb285)); have n7_ := am' ((by rw [hg]; exact Nat.ne_of_lt (blk_lt (g := gb273) (o := .cells #[.slice A0_0 l0_0.length c0_0, .int .i64 a0_1] 24 (0, 0)) (by (with_reducible repeat (first | refine kn' ?_ _ | refine kd' ?_ | refine ka' ?_ _)); exact BK273.out)) : gb273 ≠ gb285)); have n8_ := am' ((by rw [hg]; exact Nat.ne_of_gt (blk_lt (g := gb273) (o := .cells #[.slice A0_0 l0_0.length c0_0, .int .i64 a0_1] 24 (0, 0)) (by (with_reducible repeat (first | refine kn' ?_ _ | refine kd' ?_ | refine ka' ?_ _)); exact BK273.out)) : gb285 ≠ gb273)); clear HO277; clear HO283; clear BK273; clear HB; have HO277 := n0_; have HO283 := n1_; have BK273 := n2_; have HB := n3_; have BK285 := n4_; have GW285 := n5_; have GE285 := n6_; have NB273_285 := n7_; have NB285_273 := n8_; clear n0_ n1_ n2_ n3_ n4_ n5_ n6_ n7_ n8_; clear hb hbox hg; obtain ⟨Ao21, co21, eo21⟩ := Kd.R_slice HO283.out; subst eo21; have hnb22 := NB285_273.out; have hnc22 := NB273_285.out; have hcz23_0 : w20.cell? ⟨gb285, 0, none⟩ = some (.slice none 0 0) := (blk_cell BK285.out 0).trans rfl; have hcz23_1 : w20.cell? ⟨gb285, 1, none⟩ = some (.int .i64 0) := (blk_cell BK285.out 1).trans rfl; have hfz23_0 := blk_frozen BK285.out 0; have hfz23_1 := blk_frozen BK285.out 1) | ((with_reducible refine gate_callee (f := 19) rfl ?_); refine goesL_ (some 28) rfl rfl Try.func19 (by kernel_rfl) rfl #[.agg #[.slice Ao21 t281.length co21, .int .i64 t284], .int .i64 a1] rfl (by (try simp only [List.map_toArray, List.map_cons, List.map_nil]); first | done | rfl | (simp only [List.length_drop, List.length_take]; rfl)) ?_; (with_reducible refine (impl_ReachedIn.calls kj3 _ _ t281 t284 a1 t286 t287 _ ?side1 ?side2 A12.out).mono ?_); (case side1 => refine (Kd.R_reads' (e := 3) (base := w.heap.size) (ok := fun k_ => ((True ∧ ¬ D294_ k_) ∧ some k_ ≠ (.slice Ao16 t275.length co16 : Value).ownBlock)) (n := t281.length) (c := co21) ?_).2.2; exact (by (with_reducible repeat (first | apply ra' | apply rn' | apply rw')); exact (Kd.R_mono (Kd.R_far (p := ⟨gb285, 1, none⟩) (Kd.R_far (p := ⟨gb285, 0, none⟩) (Kd.R_types HO283.out BK285.out (by decide)) (fun _ hk => hk.2) (.slice Ao21 t281.length co21)) (fun _ hk => hk.2) (.int .i64 t284)) (fun _ h_ => h_.1)))); (case side2 => exact (Kd.R_reads' HO283.out).2.1); rintro e w24 ⟨rfl, hb⟩; refine ⟨_, rfl, ?_⟩; have n0_ := am' (Kd.R_below (by (with_reducible repeat (first | apply ra' | apply rn' | apply rw')); exact (Kd.R_mono (Kd.R_far (p := ⟨gb285, 1, none⟩) (Kd.R_far (p := ⟨gb285, 0, none⟩) (Kd.R_types HO277.out BK285.out (by decide)) (fun _ hk => hk.2) (.slice Ao21 t281.length co21)) (fun _ hk => hk.2) (.int .i64 t284)) (fun _ h_ => h_.1))) hb); have n1_ := am' (Kd.R_below (by (with_reducible repeat (first | apply ra' | apply rn' | apply rw')); exact (Kd.R_mono (Kd.R_far (p := ⟨gb285, 1, none⟩) (Kd.R_far (p := ⟨gb285, 0, none⟩) (Kd.R_types HO283.out BK285.out (by decide)) (fun _ hk => hk.2) (.slice Ao21 t281.length co21)) (fun _ hk => hk.2) (.int .i64 t284)) (fun _ h_ => h_.1))) hb); have n2_ := am' (blk_below (g := gb273) (o := .cells #[.slice A0_0 l0_0.length c0_0, .int .i64 a0_1] 24 (0, 0)) (by (with_reducible repeat (first | refine kn' ?_ _ | refine kd' ?_ | refine ka' ?_ _)); refine blk_far ?_ NB273_285.out _; (with_reducible repeat (first | refine kn' ?_ _ | refine kd' ?_ | refine ka' ?_ _)); refine blk_far ?_ NB273_285.out _; (with_reducible repeat (first | refine kn' ?_ _ | refine kd' ?_ | refine ka' ?_ _)); exact BK273.out) hb); have n3_ := am' (blk_below (g := gb285) (o := .cells #[.slice Ao21 t281.length co21, .int .i64 t284] 28 (0, 0)) (by (with_reducible repeat (first | refine kn' ?_ _ | refine kd' ?_ | refine ka' ?_ _)); refine blk_put (cs := #[.slice Ao21 t281.length co21, .int .i64 0]) ?_ 1 _ rfl; (with_reducible repeat (first | refine kn' ?_ _ | refine kd' ?_ | refine ka' ?_ _)); refine blk_put (cs := #[.slice none 0 0, .int .i64 0]) ?_ 0 _ rfl; (with_reducible repeat (first | refine kn' ?_ _ | refine kd' ?_ | refine ka' ?_ _)); exact BK285.out) hb); have n4_ := am' (below_step (by repeat (first | (with_reducible first | exact HB.out | apply ba' | apply bd' | apply be' | refine bs' ?_ GE273.out | refine bs' ?_ GE285.out) | exact HB.out)) hb); clear HO277; clear HO283; clear BK273; clear BK285; clear HB; have HO277 := n0_; have HO283 := n1_; have BK273 := n2_; have BK285 := n3_; have HB := n4_; clear n0_ n1_ n2_ n3_ n4_; (try clear hb); (try clear hb2); (try clear hk); (try clear hi)))
   (try simp only [Act.put, sa', sb', sc'])
   go_cut [38] (fun v38 wc => ∃ (kq : Nat) (x38_12 : Bool), v38 = .bool x38_12 ∧ Aside0 (laws_FnExactReachedIn.j1 kq x38_12 l0_0 a0_1 t281 t284 = some r) ∧ Aside0 (kq ≤ kj3) ∧ Aside0 (Kd.R (Kd.int .i64) 3 wc w.heap.size (fun k_ => ¬ D294_ k_) (.slice Ao21 t281.length co21) t281) ∧ Aside0 (wc.heap[gb273]? = some (.cells #[(.slice A0_0 l0_0.length c0_0), .int .i64 a0_1] 24 (0, 0))) ∧ Aside0 (wc.heap[gb285]? = some (.cells #[(.slice Ao21 t281.length co21), .int .i64 t284] 28 (0, 0))) ∧ Aside0 (Below w.heap.size w wc))
   case first =>
    have H := HC13.out
    clear HC13; by_cases c25 : t286 = t279
    ·
     rw [if_pos c25] at H; have c25b0 : (t286 == t279) = true := beq_iff_eq.mpr c25
     have c25b1 : (t286 != t279) = false := bne_eq_false_iff_eq.mpr c25
     clear c25; (first | rw [c25b0] | (simp only [i64_w, i32_w]; rw [c25b0]) | skip)
     have H' := am' H
     clear H; go_wp2
     go_meet
     case rel => exact ⟨_, ((t287 != t280)), (by first | rfl | (simp; done) | (simp [*]; done)), H', ⟨by have := HJ3.out; first | omega | exact Nat.le_refl _⟩, ⟨by (with_reducible repeat (first | apply ra' | apply rn' | apply rw')); exact Kd.R_mono HO283.out (fun _ hk => hk.1.2)⟩, ⟨by (with_reducible repeat (first | refine kn' ?_ _ | refine kd' ?_ | refine ka' ?_ _)); exact BK273.out⟩, ⟨by (with_reducible repeat (first | refine kn' ?_ _ | refine kd' ?_ | refine ka' ?_ _)); exact BK285.out⟩, ⟨by repeat (first | (with_reducible first | exact HB.out | apply ba' | apply bd' | apply be' | refine bs' ?_ GE273.out | refine bs' ?_ GE285.out) | exact HB.out)⟩⟩
    ·
     rw [if_neg c25] at H; have c25b0 : (t286 == t279) = false := beq_eq_false_iff_ne.mpr c25
     have c25b1 : (t286 != t279) = true := bne_iff_ne.mpr c25
     (first | rw [c25b0] | (simp only [i64_w, i32_w]; rw [c25b0]) | skip)
     have H' := am' H
     clear H; go_wp2
     go_meet
     case rel => exact ⟨_, (true), (by first | rfl | (simp; done) | (simp [*]; done)), H', ⟨by have := HJ3.out; first | omega | exact Nat.le_refl _⟩, ⟨by (with_reducible repeat (first | apply ra' | apply rn' | apply rw')); exact Kd.R_mono HO283.out (fun _ hk => hk.1.2)⟩, ⟨by (with_reducible repeat (first | refine kn' ?_ _ | refine kd' ?_ | refine ka' ?_ _)); exact BK273.out⟩, ⟨by (with_reducible repeat (first | refine kn' ?_ _ | refine kd' ?_ | refine ka' ?_ _)); exact BK285.out⟩, ⟨by repeat (first | (with_reducible first | exact HB.out | apply ba' | apply bd' | apply be' | refine bs' ?_ GE273.out | refine bs' ?_ GE285.out) | exact HB.out)⟩⟩
   case rest =>
    clear HC13; try clear c1
    try clear c2
    try clear p2
    try clear c3
    try clear c8
    try clear c8b0
    try clear c16
    try clear c17
    try clear c18
    try clear c19
    try clear c22
    try clear c25
    try clear c25b0
    try clear c25b1
    try clear hcz14_0
    try clear hcz14_1
    try clear hcz18_0
    try clear hcz18_1
    try clear hcz23_0
    try clear hcz23_1
    try clear hcz6_0
    try clear hcz6_1
    try clear hfz14_0
    try clear hfz14_1
    try clear hfz18_0
    try clear hfz18_1
    try clear hfz23_0
    try clear hfz23_1
    try clear hfz6_0
    try clear hfz6_1
    try clear p2
    obtain ⟨kq, x38_12, rfl, HA, HJ12, HO_286000, BK273, BK285, HB⟩ := hcut
    cases kq with
    | zero => exact absurd HA.out (by simp [laws_FnExactReachedIn.j1])
    | succ kj12 =>
     have H := HA.out
     clear HA; simp only [laws_FnExactReachedIn.j1] at H
     have HC26 := am' H
     clear H; go_upto_if 38 with (fail)
     go_cut [] (fun wc => ∃ (kq : Nat), Aside0 (laws_FnExactReachedIn.j2 kq l0_0 a0_1 t281 t284 = some r) ∧ Aside0 (kq ≤ kj12) ∧ Aside0 (Kd.R (Kd.int .i64) 3 wc w.heap.size (fun k_ => ¬ D294_ k_) (.slice Ao21 t281.length co21) t281) ∧ Aside0 (wc.heap[gb273]? = some (.cells #[(.slice A0_0 l0_0.length c0_0), .int .i64 a0_1] 24 (0, 0))) ∧ Aside0 (wc.heap[gb285]? = some (.cells #[(.slice Ao21 t281.length co21), .int .i64 t284] 28 (0, 0))) ∧ Aside0 (Below w.heap.size w wc))
     case first =>
      have H := HC26.out
      clear HC26; by_cases c27 : x38_12 = true
      ·
       subst c27; have H1 : (some false) = some r := by rw [if_pos rfl] at H; exact H
       clear H; have H := H1; clear H1; obtain rfl := Option.some.inj H
       go_wp2
       go_ret
       exact ⟨by first | rfl | (simp [errW_none, errW_some] <;> rfl) | (simp [*, errW_none, errW_some] <;> rfl), by repeat (first | (with_reducible first | exact HB.out | apply ba' | apply bd' | apply be' | refine bs' ?_ GE273.out | refine bs' ?_ GE285.out) | exact HB.out)⟩
      ·
       replace c27 := Bool.eq_false_iff.mpr c27
       subst c27; have H1 : (laws_FnExactReachedIn.j2 kj12 l0_0 a0_1 t281 t284) = some r := by rw [if_neg (show ¬ (false = true) by decide)] at H; exact H
       clear H; have H := H1; clear H1; have H' := am' H
       clear H; go_wp2
       go_meet
       case rel => exact ⟨_, H', ⟨by have := HJ3.out; have := HJ12.out; first | omega | exact Nat.le_refl _⟩, ⟨by (with_reducible repeat (first | apply ra' | apply rn' | apply rw')); exact HO_286000.out⟩, ⟨by (with_reducible repeat (first | refine kn' ?_ _ | refine kd' ?_ | refine ka' ?_ _)); exact BK273.out⟩, ⟨by (with_reducible repeat (first | refine kn' ?_ _ | refine kd' ?_ | refine ka' ?_ _)); exact BK285.out⟩, ⟨by repeat (first | (with_reducible first | exact HB.out | apply ba' | apply bd' | apply be' | refine bs' ?_ GE273.out | refine bs' ?_ GE285.out) | exact HB.out)⟩⟩
     case rest =>
      clear HC26; try clear c1
      try clear c2
      try clear p2
      try clear c3
      try clear c8
      try clear c8b0
      try clear c16
      try clear c17
      try clear c18
      try clear c19
      try clear c22
      try clear c25
      try clear c25b0
      try clear c25b1
      try clear c27
      try clear hcz14_0
      try clear hcz14_1
      try clear hcz18_0
      try clear hcz18_1
      try clear hcz23_0
      try clear hcz23_1
      try clear hcz6_0
      try clear hcz6_1
      try clear hfz14_0
      try clear hfz14_1
      try clear hfz18_0
      try clear hfz18_1
      try clear hfz23_0
      try clear hfz23_1
      try clear hfz6_0
      try clear hfz6_1
      try clear p2
      obtain ⟨kq, HA, HJ25, HO_286000, BK273, BK285, HB⟩ := hcut
      cases kq with
      | zero => exact absurd HA.out (by simp [laws_FnExactReachedIn.j2])
      | succ kj25 =>
       have H := HA.out
       clear HA; simp only [laws_FnExactReachedIn.j2] at H
       replace H := Option.bind_eq_some_iff.mp H
       obtain ⟨⟨t288, t291⟩, A280, H⟩ := H
       replace H : ((laws_eqParty.f kj25 t281 t284 t288 t291).bind fun t292 => (if t292 = true then (some true) else (some false))) = some r := H
       have A28 := am' A280
       clear A280; replace H := Option.bind_eq_some_iff.mp H
       obtain ⟨t292, A290, H⟩ := H
       replace H : (if t292 = true then (some true) else (some false)) = some r := H
       have A29 := am' A290
       clear A290; by_cases c30 : t292 = true
       ·
        subst c30; have H1 : (some true) = some r := by rw [if_pos rfl] at H; exact H
        clear H; have H := H1; clear H1; obtain rfl := Option.some.inj H
        try go_wp2
        have n0_ := am' (rw' HO_286000.out)
        have n1_ := am' (kd' BK273.out)
        have n2_ := am' (kd' BK285.out)
        have n3_ := am' (be' HB.out)
        clear HO_286000; clear BK273; clear BK285; clear HB; have HO_286000 := n0_; have BK273 := n1_; have BK285 := n2_; have HB := n3_; clear n0_ n1_ n2_ n3_; refine start_ (n := 5) (S := fun w' => w'.cell? ⟨gb285, 0, none⟩ = some (.slice Ao21 t281.length co21) ∧ w'.cell? ⟨gb285, 1, none⟩ = some (.int .i64 t284) ∧ w'.cell? ⟨gb273, 0, none⟩ = some (.slice A0_0 l0_0.length c0_0) ∧ w'.cell? ⟨gb273, 1, none⟩ = some (.int .i64 a0_1)) (ds := []) #[false, false, false, false, false] (by kernel_rfl) rfl rfl ⟨(blk_cell BK285.out 0).trans rfl, (blk_cell BK285.out 1).trans rfl, (blk_cell BK273.out 0).trans rfl, (blk_cell BK273.out 1).trans rfl⟩ (fun hHeld => ?_)
        generalize wc.drew = w31 at HO_286000 BK273 BK285 HB hHeld ⊢
        refine take_ (i := 0) (N := some 39) (v := ?_) (a' := ?_) #[true, false, false, false, false] rfl rfl (by kernel_rfl) (fun _ _ _ h => h) (Or.inl ⟨by rfl, ?_⟩) hHeld ?_ ?_
        rotate_left
        ·
         rintro w' ⟨s0, s1, s2, s3⟩
         go_simp; with_reducible rfl
        rotate_left
        ·
         simp only [Act.put, sa', sb', sc', i64_w, i32_w]
         rfl
        refine take_ (i := 1) (N := some 40) (v := ?_) (a' := ?_) #[true, true, false, false, false] rfl rfl (by kernel_rfl) (fun _ _ _ h => h) (Or.inl ⟨by rfl, ?_⟩) hHeld ?_ ?_
        rotate_left
        ·
         rintro w' ⟨s0, s1, s2, s3⟩
         go_simp; with_reducible rfl
        rotate_left
        ·
         simp only [Act.put, sa', sb', sc', i64_w, i32_w]
         rfl
        refine one_ (i := 2) (N := some 41) #[true, true, true, false, false] rfl rfl (by kernel_rfl) (by decide) (fun K hK => ?_)
        refine goes_ Try.func18 (by kernel_rfl) rfl #[.agg #[.slice A0_0 l0_0.length c0_0, .int .i64 a0_1]] (by rfl) rfl rfl (by (try simp only [List.map_toArray, List.map_cons, List.map_nil]); first | done | rfl | (simp only [List.length_drop, List.length_take]; rfl)) ?_
        with_reducible refine (laws_toParty.calls kj25 _ _ l0_0 a0_1 t288 t291 _ ?side1 ?side2 A28.out).mono ?_
        (case side1 => repeat (first | exact (Kd.C_below HR0_0.out HB.out) | (with_reducible refine ca' ?_ _) | (with_reducible refine cn' ?_ _) | (with_reducible refine cd' ?_)))
        (case side2 => exact HC0_0.out)
        rintro e w32 ⟨v289, rfl, ho0, hb⟩
        refine ⟨_, rfl, ?_⟩
        have n0_ := am' (Kd.R_elder' (by (with_reducible repeat (first | apply ra' | apply rn' | apply rw')); exact HO_286000.out) (Kd.R_base ho0) hb)
        have n1_ := am' (Kd.R_lower (Kd.R_new' ho0 (Kd.R_lt (by (with_reducible repeat (first | apply ra' | apply rn' | apply rw')); exact HO_286000.out))) (below_size (by repeat (first | (with_reducible first | exact HB.out | apply ba' | apply bd' | apply be' | refine bs' ?_ GE273.out | refine bs' ?_ GE285.out) | exact HB.out))))
        have n2_ := am' (blk_below (g := gb273) (o := .cells #[.slice A0_0 l0_0.length c0_0, .int .i64 a0_1] 24 (0, 0)) (by (with_reducible repeat (first | refine kn' ?_ _ | refine kd' ?_ | refine ka' ?_ _)); exact BK273.out) hb)
        have n3_ := am' (blk_below (g := gb285) (o := .cells #[.slice Ao21 t281.length co21, .int .i64 t284] 28 (0, 0)) (by (with_reducible repeat (first | refine kn' ?_ _ | refine kd' ?_ | refine ka' ?_ _)); exact BK285.out) hb)
        have n4_ := am' (below_step (by repeat (first | (with_reducible first | exact HB.out | apply ba' | apply bd' | apply be' | refine bs' ?_ GE273.out | refine bs' ?_ GE285.out) | exact HB.out)) hb)
        clear HO_286000; clear BK273; clear BK285; clear HB; have HO_286000 := n0_; have HO290 := n1_; have BK273 := n2_; have BK285 := n3_; have HB := n4_; clear n0_ n1_ n2_ n3_ n4_; (try clear hb)
        (try clear hb2)
        (try clear hk)
        (try clear hi)
        (try clear ho0)
        obtain ⟨Ao33, co33, eo33⟩ := Kd.R_slice HO290.out
        (first | subst eo33 | (injection eo33 with f1_ f2_ f3_; have f4_ := f1_.symm; have f5_ := f3_.symm; clear f1_ f2_ f3_; subst f4_; subst f5_))
        refine hK.out _ _ ⟨(blk_cell BK285.out 0).trans rfl, (blk_cell BK285.out 1).trans rfl, (blk_cell BK273.out 0).trans rfl, (blk_cell BK273.out 1).trans rfl⟩ (fun hHeld => ?_)
        clear hK K; refine norm_ (a' := ?_) ?_ ?_
        rotate_left
        ·
         show Act.put _ (some 41) _ = _
         simp only [Act.put, sa', sb', sc', i64_w, i32_w]
         rfl
        refine one_ (i := 3) (N := some 42) #[true, true, true, true, false] rfl rfl (by kernel_rfl) (by decide) (fun K hK => ?_)
        refine goes_ Try.func20 (by kernel_rfl) rfl #[.agg #[.slice Ao21 t281.length co21, .int .i64 t284], .agg #[.slice Ao33 t288.length co33, .int .i64 t291]] (by rfl) rfl rfl (by (try simp only [List.map_toArray, List.map_cons, List.map_nil]); first | done | rfl | (simp only [List.length_drop, List.length_take]; rfl)) ?_
        with_reducible refine (laws_eqParty.calls kj25 _ _ t281 t284 _ _ t288 t291 true _ ?side1 ?side2 ?side3 ?side4 A29.out).mono ?_
        (case side1 => repeat (first | exact (Kd.R_reads' HO_286000.out).2.2 | (with_reducible refine ca' ?_ _) | (with_reducible refine cn' ?_ _) | (with_reducible refine cd' ?_)))
        (case side2 => exact (Kd.R_reads' HO_286000.out).2.1)
        (case side3 => repeat (first | exact (Kd.R_reads' HO290.out).2.2 | (with_reducible refine ca' ?_ _) | (with_reducible refine cn' ?_ _) | (with_reducible refine cd' ?_)))
        (case side4 => exact (Kd.R_reads' HO290.out).2.1)
        rintro e w34 ⟨rfl, hb⟩
        refine ⟨_, rfl, ?_⟩
        have n0_ := am' (Kd.R_below (by (with_reducible repeat (first | apply ra' | apply rn' | apply rw')); exact HO_286000.out) hb)
        have n1_ := am' (Kd.R_below (by (with_reducible repeat (first | apply ra' | apply rn' | apply rw')); exact HO290.out) hb)
        have n2_ := am' (blk_below (g := gb273) (o := .cells #[.slice A0_0 l0_0.length c0_0, .int .i64 a0_1] 24 (0, 0)) (by (with_reducible repeat (first | refine kn' ?_ _ | refine kd' ?_ | refine ka' ?_ _)); exact BK273.out) hb)
        have n3_ := am' (blk_below (g := gb285) (o := .cells #[.slice Ao21 t281.length co21, .int .i64 t284] 28 (0, 0)) (by (with_reducible repeat (first | refine kn' ?_ _ | refine kd' ?_ | refine ka' ?_ _)); exact BK285.out) hb)
        have n4_ := am' (below_step (by repeat (first | (with_reducible first | exact HB.out | apply ba' | apply bd' | apply be' | refine bs' ?_ GE273.out | refine bs' ?_ GE285.out) | exact HB.out)) hb)
        clear HO_286000; clear HO290; clear BK273; clear BK285; clear HB; have HO_286000 := n0_; have HO290 := n1_; have BK273 := n2_; have BK285 := n3_; have HB := n4_; clear n0_ n1_ n2_ n3_ n4_; (try clear hb)
        (try clear hb2)
        (try clear hk)
        (try clear hi)
        refine hK.out _ _ ⟨(blk_cell BK285.out 0).trans rfl, (blk_cell BK285.out 1).trans rfl, (blk_cell BK273.out 0).trans rfl, (blk_cell BK273.out 1).trans rfl⟩ (fun hHeld => ?_)
        clear hK K; refine norm_ (a' := ?_) ?_ ?_
        rotate_left
        ·
         show Act.put _ (some 42) _ = _
         simp only [Act.put, sa', sb', sc', i64_w, i32_w]
         rfl
        refine pure_ (i := 4) (N := some 43) (v := ?_) (a' := ?_) #[true, true, true, true, true] rfl rfl (by kernel_rfl) (fun _ _ _ h => h) (Or.inl ⟨by rfl, ?_⟩) ?_ ?_
        rotate_left
        ·
         intro w'; go_simp; with_reducible rfl
        rotate_left
        ·
         simp only [Act.put, sa', sb', sc', i64_w, i32_w]
         rfl
        refine done_ (by kernel_rfl) ?_
        try go_wp2
        go_ret
        exact ⟨by first | rfl | (simp [errW_none, errW_some] <;> rfl) | (simp [*, errW_none, errW_some] <;> rfl), by repeat (first | (with_reducible first | exact HB.out | apply ba' | apply bd' | apply be' | refine bs' ?_ GE273.out | refine bs' ?_ GE285.out) | exact HB.out)⟩
       ·
        replace c30 := Bool.eq_false_iff.mpr c30
        subst c30; have H1 : (some false) = some r := by rw [if_neg (show ¬ (false = true) by decide)] at H; exact H
        clear H; have H := H1; clear H1; obtain rfl := Option.some.inj H
        try go_wp2
        have n0_ := am' (rw' HO_286000.out)
        have n1_ := am' (kd' BK273.out)
        have n2_ := am' (kd' BK285.out)
        have n3_ := am' (be' HB.out)
        clear HO_286000; clear BK273; clear BK285; clear HB; have HO_286000 := n0_; have BK273 := n1_; have BK285 := n2_; have HB := n3_; clear n0_ n1_ n2_ n3_; refine start_ (n := 5) (S := fun w' => w'.cell? ⟨gb285, 0, none⟩ = some (.slice Ao21 t281.length co21) ∧ w'.cell? ⟨gb285, 1, none⟩ = some (.int .i64 t284) ∧ w'.cell? ⟨gb273, 0, none⟩ = some (.slice A0_0 l0_0.length c0_0) ∧ w'.cell? ⟨gb273, 1, none⟩ = some (.int .i64 a0_1)) (ds := []) #[false, false, false, false, false] (by kernel_rfl) rfl rfl ⟨(blk_cell BK285.out 0).trans rfl, (blk_cell BK285.out 1).trans rfl, (blk_cell BK273.out 0).trans rfl, (blk_cell BK273.out 1).trans rfl⟩ (fun hHeld => ?_)
        generalize wc.drew = w35 at HO_286000 BK273 BK285 HB hHeld ⊢
        refine take_ (i := 0) (N := some 39) (v := ?_) (a' := ?_) #[true, false, false, false, false] rfl rfl (by kernel_rfl) (fun _ _ _ h => h) (Or.inl ⟨by rfl, ?_⟩) hHeld ?_ ?_
        rotate_left
        ·
         rintro w' ⟨s0, s1, s2, s3⟩
         go_simp; with_reducible rfl
        rotate_left
        ·
         simp only [Act.put, sa', sb', sc', i64_w, i32_w]
         rfl
        refine take_ (i := 1) (N := some 40) (v := ?_) (a' := ?_) #[true, true, false, false, false] rfl rfl (by kernel_rfl) (fun _ _ _ h => h) (Or.inl ⟨by rfl, ?_⟩) hHeld ?_ ?_
        rotate_left
        ·
         rintro w' ⟨s0, s1, s2, s3⟩
         go_simp; with_reducible rfl
        rotate_left
        ·
         simp only [Act.put, sa', sb', sc', i64_w, i32_w]
         rfl
        refine one_ (i := 2) (N := some 41) #[true, true, true, false, false] rfl rfl (by kernel_rfl) (by decide) (fun K hK => ?_)
        refine goes_ Try.func18 (by kernel_rfl) rfl #[.agg #[.slice A0_0 l0_0.length c0_0, .int .i64 a0_1]] (by rfl) rfl rfl (by (try simp only [List.map_toArray, List.map_cons, List.map_nil]); first | done | rfl | (simp only [List.length_drop, List.length_take]; rfl)) ?_
        with_reducible refine (laws_toParty.calls kj25 _ _ l0_0 a0_1 t288 t291 _ ?side1 ?side2 A28.out).mono ?_
        (case side1 => repeat (first | exact (Kd.C_below HR0_0.out HB.out) | (with_reducible refine ca' ?_ _) | (with_reducible refine cn' ?_ _) | (with_reducible refine cd' ?_)))
        (case side2 => exact HC0_0.out)
        rintro e w36 ⟨v289, rfl, ho0, hb⟩
        refine ⟨_, rfl, ?_⟩
        have n0_ := am' (Kd.R_elder' (by (with_reducible repeat (first | apply ra' | apply rn' | apply rw')); exact HO_286000.out) (Kd.R_base ho0) hb)
        have n1_ := am' (Kd.R_lower (Kd.R_new' ho0 (Kd.R_lt (by (with_reducible repeat (first | apply ra' | apply rn' | apply rw')); exact HO_286000.out))) (below_size (by repeat (first | (with_reducible first | exact HB.out | apply ba' | apply bd' | apply be' | refine bs' ?_ GE273.out | refine bs' ?_ GE285.out) | exact HB.out))))
        have n2_ := am' (blk_below (g := gb273) (o := .cells #[.slice A0_0 l0_0.length c0_0, .int .i64 a0_1] 24 (0, 0)) (by (with_reducible repeat (first | refine kn' ?_ _ | refine kd' ?_ | refine ka' ?_ _)); exact BK273.out) hb)
        have n3_ := am' (blk_below (g := gb285) (o := .cells #[.slice Ao21 t281.length co21, .int .i64 t284] 28 (0, 0)) (by (with_reducible repeat (first | refine kn' ?_ _ | refine kd' ?_ | refine ka' ?_ _)); exact BK285.out) hb)
        have n4_ := am' (below_step (by repeat (first | (with_reducible first | exact HB.out | apply ba' | apply bd' | apply be' | refine bs' ?_ GE273.out | refine bs' ?_ GE285.out) | exact HB.out)) hb)
        clear HO_286000; clear BK273; clear BK285; clear HB; have HO_286000 := n0_; have HO290 := n1_; have BK273 := n2_; have BK285 := n3_; have HB := n4_; clear n0_ n1_ n2_ n3_ n4_; (try clear hb)
        (try clear hb2)
        (try clear hk)
        (try clear hi)
        (try clear ho0)
        obtain ⟨Ao37, co37, eo37⟩ := Kd.R_slice HO290.out
        (first | subst eo37 | (injection eo37 with f1_ f2_ f3_; have f4_ := f1_.symm; have f5_ := f3_.symm; clear f1_ f2_ f3_; subst f4_; subst f5_))
        refine hK.out _ _ ⟨(blk_cell BK285.out 0).trans rfl, (blk_cell BK285.out 1).trans rfl, (blk_cell BK273.out 0).trans rfl, (blk_cell BK273.out 1).trans rfl⟩ (fun hHeld => ?_)
        clear hK K; refine norm_ (a' := ?_) ?_ ?_
        rotate_left
        ·
         show Act.put _ (some 41) _ = _
         simp only [Act.put, sa', sb', sc', i64_w, i32_w]
         rfl
        refine one_ (i := 3) (N := some 42) #[true, true, true, true, false] rfl rfl (by kernel_rfl) (by decide) (fun K hK => ?_)
        refine goes_ Try.func20 (by kernel_rfl) rfl #[.agg #[.slice Ao21 t281.length co21, .int .i64 t284], .agg #[.slice Ao37 t288.length co37, .int .i64 t291]] (by rfl) rfl rfl (by (try simp only [List.map_toArray, List.map_cons, List.map_nil]); first | done | rfl | (simp only [List.length_drop, List.length_take]; rfl)) ?_
        with_reducible refine (laws_eqParty.calls kj25 _ _ t281 t284 _ _ t288 t291 false _ ?side1 ?side2 ?side3 ?side4 A29.out).mono ?_
        (case side1 => repeat (first | exact (Kd.R_reads' HO_286000.out).2.2 | (with_reducible refine ca' ?_ _) | (with_reducible refine cn' ?_ _) | (with_reducible refine cd' ?_)))
        (case side2 => exact (Kd.R_reads' HO_286000.out).2.1)
        (case side3 => repeat (first | exact (Kd.R_reads' HO290.out).2.2 | (with_reducible refine ca' ?_ _) | (with_reducible refine cn' ?_ _) | (with_reducible refine cd' ?_)))
        (case side4 => exact (Kd.R_reads' HO290.out).2.1)
        rintro e w38 ⟨rfl, hb⟩
        refine ⟨_, rfl, ?_⟩
        have n0_ := am' (Kd.R_below (by (with_reducible repeat (first | apply ra' | apply rn' | apply rw')); exact HO_286000.out) hb)
        have n1_ := am' (Kd.R_below (by (with_reducible repeat (first | apply ra' | apply rn' | apply rw')); exact HO290.out) hb)
        have n2_ := am' (blk_below (g := gb273) (o := .cells #[.slice A0_0 l0_0.length c0_0, .int .i64 a0_1] 24 (0, 0)) (by (with_reducible repeat (first | refine kn' ?_ _ | refine kd' ?_ | refine ka' ?_ _)); exact BK273.out) hb)
        have n3_ := am' (blk_below (g := gb285) (o := .cells #[.slice Ao21 t281.length co21, .int .i64 t284] 28 (0, 0)) (by (with_reducible repeat (first | refine kn' ?_ _ | refine kd' ?_ | refine ka' ?_ _)); exact BK285.out) hb)
        have n4_ := am' (below_step (by repeat (first | (with_reducible first | exact HB.out | apply ba' | apply bd' | apply be' | refine bs' ?_ GE273.out | refine bs' ?_ GE285.out) | exact HB.out)) hb)
        clear HO_286000; clear HO290; clear BK273; clear BK285; clear HB; have HO_286000 := n0_; have HO290 := n1_; have BK273 := n2_; have BK285 := n3_; have HB := n4_; clear n0_ n1_ n2_ n3_ n4_; (try clear hb)
        (try clear hb2)
        (try clear hk)
        (try clear hi)
        refine hK.out _ _ ⟨(blk_cell BK285.out 0).trans rfl, (blk_cell BK285.out 1).trans rfl, (blk_cell BK273.out 0).trans rfl, (blk_cell BK273.out 1).trans rfl⟩ (fun hHeld => ?_)
        clear hK K; refine norm_ (a' := ?_) ?_ ?_
        rotate_left
        ·
         show Act.put _ (some 42) _ = _
         simp only [Act.put, sa', sb', sc', i64_w, i32_w]
         rfl
        refine pure_ (i := 4) (N := some 43) (v := ?_) (a' := ?_) #[true, true, true, true, true] rfl rfl (by kernel_rfl) (fun _ _ _ h => h) (Or.inl ⟨by rfl, ?_⟩) ?_ ?_
        rotate_left
        ·
         intro w'; go_simp; with_reducible rfl
        rotate_left
        ·
         simp only [Act.put, sa', sb', sc', i64_w, i32_w]
         rfl
        refine done_ (by kernel_rfl) ?_
        try go_wp2
        go_ret
        exact ⟨by first | rfl | (simp [errW_none, errW_some] <;> rfl) | (simp [*, errW_none, errW_some] <;> rfl), by repeat (first | (with_reducible first | exact HB.out | apply ba' | apply bd' | apply be' | refine bs' ?_ GE273.out | refine bs' ?_ GE285.out) | exact HB.out)⟩
end Go.Proofs.Ytamljjfhkolflaa.C7
