import Derived.Test.YtpobeakggacdpaaC9zx0
import Derived.Test.YtpobeakggacdpaaC9zx1
import Derived.Test.YtpobeakggacdpaaC9zx3
import Derived.Test.YtpobeakggacdpaaC9zAl
namespace Go.Proofs.Ytpobeakggacdpaa.C9
open Go.RowKit Go.Proofs.YtpobeakggacdpaaW.PrintWords Go.Proofs.YtpobeakggacdpaaW.PrintLast Go.Proofs.YtpobeakggacdpaaW.PrintMore Go.Proofs.Ytpobeakggacdpaa.H
attribute [local go_sem] max2_int min2_int max_two min_two max_three min_three max_four min_four
set_option linter.unusedVariables false
set_option linter.unusedSimpArgs false
def slices_Contains_bool_bool.f (k : Nat) (l0 : List Bool) (a1 : Bool) : Option (Bool) := (slices_Index_bool_bool.f k l0 a1).bind fun t196 => (some (decide (t196 ≥ 0)))
set_option maxHeartbeats 8000000 in
set_option maxRecDepth 100000 in
theorem slices_Contains_bool_bool.calls (k : Nat) (A0 : Option Addr) (c0 : Nat) (l0 : List Bool) (a1 : Bool) (r : Bool) (w : World) (hr0 : Kd.C Kd.bool w A0 l0.length l0) (hc0 : l0.length ≤ c0) (h : slices_Contains_bool_bool.f k l0 a1 = some r) :
  Calls Try.prog 126 #[.slice A0 l0.length c0, .bool a1] w fun e w' => e = .returned (.bool r) ∧ Drawn0 w w' := by
 have HR0 := am' hr0
 have HC0 := am' hc0
 clear hr0 hc0; have H : ((slices_Index_bool_bool.f k l0 a1).bind fun t196 => (some (decide (t196 ≥ 0)))) = some r := h
 clear h; replace H := Option.bind_eq_some_iff.mp H
 obtain ⟨t196, A30, H⟩ := H
 replace H : (some (decide (t196 ≥ 0))) = some r := H
 have A3 := am' A30
 clear A30; obtain rfl := Option.some.inj H
 go_enter Try.func126, Try.ntmps126
 go_wp2_with (first | ((with_reducible refine gate_callee (f := 146) rfl ?_); refine goesL_ (some 7) rfl rfl Try.func146 (by kernel_rfl) rfl #[.slice A0 l0.length c0, .bool a1] rfl (by (try simp only [List.map_toArray, List.map_cons, List.map_nil]); first | done | rfl | (simp only [List.length_drop, List.length_take]; rfl)) ?_; (with_reducible refine (slices_Index_bool_bool.calls k _ _ l0 a1 t196 _ ?side1 ?side2 A3.out).mono ?_); (case side1 => repeat (first | exact HR0.out | (with_reducible refine ca' ?_ _) | (with_reducible refine cn' ?_ _) | (with_reducible refine cd' ?_))); (case side2 => exact HC0.out); rintro e w' ⟨rfl, ⟨nd, rfl⟩⟩; refine ⟨_, rfl, ?_⟩))
 go_ret
 exact ⟨by first | rfl | (simp; done) | (simp [*]; done), by repeat (first | exact Drawn0.refl _ | apply Drawn0.step)⟩
def impl_isStateOf.f (k : Nat) (a0 : Int) (l1_0 : List Bool) (a1_1 : Bool) : Option (Bool) := if (l1_0.length : Int) = a0 then ((slices_Contains_bool_bool.f k l1_0 a1_1).bind fun t198 => (some t198)) else (some false)
set_option maxHeartbeats 8000000 in
set_option maxRecDepth 100000 in
theorem impl_isStateOf.calls (k : Nat) (a0 : Int) (A1_0 : Option Addr) (c1_0 : Nat) (l1_0 : List Bool) (a1_1 : Bool) (r : Bool) (w : World) (hr1_0 : Kd.C Kd.bool w A1_0 l1_0.length l1_0) (hc1_0 : l1_0.length ≤ c1_0) (h : impl_isStateOf.f k a0 l1_0 a1_1 = some r) :
  Calls Try.prog 131 #[.int .i64 a0, .agg #[.slice A1_0 l1_0.length c1_0, .bool a1_1]] w fun e w' => e = .returned (.bool r) ∧ Below w.heap.size w w' := by
 have hu71 := Try.underlying71
 have HR1_0 := am' hr1_0
 have HC1_0 := am' hc1_0
 clear hr1_0 hc1_0; have HB := am' (Below.refl w.heap.size w)
 have H : (if (l1_0.length : Int) = a0 then ((slices_Contains_bool_bool.f k l1_0 a1_1).bind fun t198 => (some t198)) else (some false)) = some r := h
 clear h; by_cases c3 : (l1_0.length : Int) = a0
 ·
  rw [if_pos c3] at H; have c3b0 : ((l1_0.length : Int) == a0) = true := beq_iff_eq.mpr c3
  have c3b1 : ((l1_0.length : Int) != a0) = false := bne_eq_false_iff_eq.mpr c3
  clear c3; replace H := Option.bind_eq_some_iff.mp H
  obtain ⟨t198, A40, H⟩ := H
  replace H : (some t198) = some r := H
  have A4 := am' A40
  clear A40; obtain rfl := Option.some.inj H
  go_enter Try.func131, Try.ntmps131
  go_wp2_with (first | ((with_reducible refine gate_dst (N := 3) rfl ?_); refine box_event ?hg (N := 3) ?hd (cs := #[.slice A1_0 l1_0.length c1_0, .bool a1_1]) (t := 71) ?hr ?_; (case hd => rfl); (case hg => rfl); (case hr => first | (go_simp; done) | (go_simp; rfl)); intro gb197 hg w5 hbox hb; have n0_ := am' (below_step (by repeat (first | (with_reducible first | exact HB.out | apply ba' | apply bd' | apply be') | exact HB.out)) hb); have n1_ := am' (hbox); have n2_ := am' ((by rw [hg]; exact (below_size (by repeat (first | (with_reducible first | exact HB.out | apply ba' | apply bd' | apply be') | exact HB.out))) : w.heap.size ≤ gb197)); have n3_ := am' ((by rw [hg]; exact (below_size (by repeat (first | (with_reducible first | exact HB.out | apply ba' | apply bd' | apply be') | exact HB.out))) : w.heap.size ≤ gb197)); clear HB; have HB := n0_; have BK197 := n1_; have GW197 := n2_; have GE197 := n3_; clear n0_ n1_ n2_ n3_; clear hb hbox hg; have hcz6_0 : w5.cell? ⟨gb197, 0, none⟩ = some (.slice A1_0 l1_0.length c1_0) := (blk_cell BK197.out 0).trans rfl; have hcz6_1 : w5.cell? ⟨gb197, 1, none⟩ = some (.bool a1_1) := (blk_cell BK197.out 1).trans rfl; have hfz6_0 := blk_frozen BK197.out 0; have hfz6_1 := blk_frozen BK197.out 1) | (go_at_call 126; (with_reducible refine (slices_Contains_bool_bool.calls k _ _ l1_0 a1_1 t198 _ ?side1 ?side2 A4.out).mono ?_); (case side1 => repeat (first | exact (Kd.C_below HR1_0.out HB.out) | (with_reducible refine ca' ?_ _) | (with_reducible refine cn' ?_ _) | (with_reducible refine cd' ?_))); (case side2 => exact HC1_0.out); rintro e w' ⟨rfl, ⟨nd, rfl⟩⟩))
  go_ret
  exact ⟨by first | rfl | (simp [errW_none, errW_some] <;> rfl) | (simp [*, errW_none, errW_some] <;> rfl), by repeat (first | (with_reducible first | exact HB.out | apply ba' | apply bd' | apply be' | refine bs' ?_ GE197.out) | exact HB.out)⟩
 ·
  rw [if_neg c3] at H; have c3b0 : ((l1_0.length : Int) == a0) = false := beq_eq_false_iff_ne.mpr c3
  have c3b1 : ((l1_0.length : Int) != a0) = true := bne_iff_ne.mpr c3
  obtain rfl := Option.some.inj H
  go_enter Try.func131, Try.ntmps131
  go_wp2_with (first | ((with_reducible refine gate_dst (N := 3) rfl ?_); refine box_event ?hg (N := 3) ?hd (cs := #[.slice A1_0 l1_0.length c1_0, .bool a1_1]) (t := 71) ?hr ?_; (case hd => rfl); (case hg => rfl); (case hr => first | (go_simp; done) | (go_simp; rfl)); intro gb197 hg w7 hbox hb; have n0_ := am' (below_step (by repeat (first | (with_reducible first | exact HB.out | apply ba' | apply bd' | apply be') | exact HB.out)) hb); have n1_ := am' (hbox); have n2_ := am' ((by rw [hg]; exact (below_size (by repeat (first | (with_reducible first | exact HB.out | apply ba' | apply bd' | apply be') | exact HB.out))) : w.heap.size ≤ gb197)); have n3_ := am' ((by rw [hg]; exact (below_size (by repeat (first | (with_reducible first | exact HB.out | apply ba' | apply bd' | apply be') | exact HB.out))) : w.heap.size ≤ gb197)); clear HB; have HB := n0_; have BK197 := n1_; have GW197 := n2_; have GE197 := n3_; clear n0_ n1_ n2_ n3_; clear hb hbox hg; have hcz8_0 : w7.cell? ⟨gb197, 0, none⟩ = some (.slice A1_0 l1_0.length c1_0) := (blk_cell BK197.out 0).trans rfl; have hcz8_1 : w7.cell? ⟨gb197, 1, none⟩ = some (.bool a1_1) := (blk_cell BK197.out 1).trans rfl; have hfz8_0 := blk_frozen BK197.out 0; have hfz8_1 := blk_frozen BK197.out 1))
  go_ret
  exact ⟨by first | rfl | (simp [errW_none, errW_some] <;> rfl) | (simp [*, errW_none, errW_some] <;> rfl), by repeat (first | (with_reducible first | exact HB.out | apply ba' | apply bd' | apply be' | refine bs' ?_ GE197.out) | exact HB.out)⟩
def impl_Party_hasState.f (k : Nat) (l0_0 : List Int) (a0_1 : Int) (l1_0 : List Bool) (a1_1 : Bool) : Option (Bool) := (impl_IsParty.f l0_0 a0_1).bind fun t201 => (if t201 = true then ((impl_isStateOf.f k (l0_0.length : Int) l1_0 a1_1).bind fun t202 => (some t202)) else (some false))
set_option maxHeartbeats 8000000 in
set_option maxRecDepth 100000 in
theorem impl_Party_hasState.calls (k : Nat) (A0_0 : Option Addr) (c0_0 : Nat) (l0_0 : List Int) (a0_1 : Int) (A1_0 : Option Addr) (c1_0 : Nat) (l1_0 : List Bool) (a1_1 : Bool) (r : Bool) (w : World) (hr0_0 : Kd.C (Kd.int .i64) w A0_0 l0_0.length l0_0) (hc0_0 : l0_0.length ≤ c0_0) (hr1_0 : Kd.C Kd.bool w A1_0 l1_0.length l1_0) (hc1_0 : l1_0.length ≤ c1_0) (h : impl_Party_hasState.f k l0_0 a0_1 l1_0 a1_1 = some r) :
  Calls Try.prog 96 #[.agg #[.slice A0_0 l0_0.length c0_0, .int .i64 a0_1], .agg #[.slice A1_0 l1_0.length c1_0, .bool a1_1]] w fun e w' => e = .returned (.bool r) ∧ Below w.heap.size w w' := by
 have hu69 := Try.underlying69
 have hu71 := Try.underlying71
 have HR0_0 := am' hr0_0
 have HC0_0 := am' hc0_0
 clear hr0_0 hc0_0; have HR1_0 := am' hr1_0
 have HC1_0 := am' hc1_0
 clear hr1_0 hc1_0; have HB := am' (Below.refl w.heap.size w)
 have H : ((impl_IsParty.f l0_0 a0_1).bind fun t201 => (if t201 = true then ((impl_isStateOf.f k (l0_0.length : Int) l1_0 a1_1).bind fun t202 => (some t202)) else (some false))) = some r := h
 clear h; replace H := Option.bind_eq_some_iff.mp H
 obtain ⟨t201, A30, H⟩ := H
 replace H : (if t201 = true then ((impl_isStateOf.f k (l0_0.length : Int) l1_0 a1_1).bind fun t202 => (some t202)) else (some false)) = some r := H
 have A3 := am' A30
 clear A30; by_cases c4 : t201 = true
 ·
  subst c4; have H1 : ((impl_isStateOf.f k (l0_0.length : Int) l1_0 a1_1).bind fun t202 => (some t202)) = some r := by rw [if_pos rfl] at H; exact H
  clear H; have H := H1; clear H1; replace H := Option.bind_eq_some_iff.mp H
  obtain ⟨t202, A50, H⟩ := H
  replace H : (some t202) = some r := H
  have A5 := am' A50
  clear A50; obtain rfl := Option.some.inj H
  go_enter Try.func96, Try.ntmps96
  go_wp2_with (first | ((with_reducible refine gate_dst (N := 2) rfl ?_); (try (refine gate_guard (by rfl) ?_; dsimp only)); refine box_event ?hg (N := 2) ?hd (cs := #[.slice A0_0 l0_0.length c0_0, .int .i64 a0_1]) (t := 69) ?hr ?_; (case hd => rfl); (case hg => rfl); (case hr => first | (go_simp; done) | (go_simp; rfl)); intro gb199 hg w6 hbox hb; have n0_ := am' (below_step (by repeat (first | (with_reducible first | exact HB.out | apply ba' | apply bd' | apply be') | exact HB.out)) hb); have n1_ := am' (hbox); have n2_ := am' ((by rw [hg]; exact (below_size (by repeat (first | (with_reducible first | exact HB.out | apply ba' | apply bd' | apply be') | exact HB.out))) : w.heap.size ≤ gb199)); have n3_ := am' ((by rw [hg]; exact (below_size (by repeat (first | (with_reducible first | exact HB.out | apply ba' | apply bd' | apply be') | exact HB.out))) : w.heap.size ≤ gb199)); clear HB; have HB := n0_; have BK199 := n1_; have GW199 := n2_; have GE199 := n3_; clear n0_ n1_ n2_ n3_; clear hb hbox hg) | ((with_reducible refine gate_dst (N := 3) rfl ?_); (try (refine gate_guard (by rfl) ?_; dsimp only)); refine box_event ?hg (N := 3) ?hd (cs := #[.slice A1_0 l1_0.length c1_0, .bool a1_1]) (t := 71) ?hr ?_; (case hd => rfl); (case hg => rfl); (case hr => first | (go_simp; done) | (go_simp; rfl)); intro gb200 hg w7 hbox hb; have n0_ := am' (blk_below (g := gb199) (o := .cells #[.slice A0_0 l0_0.length c0_0, .int .i64 a0_1] 69 (0, 0)) (by (with_reducible repeat (first | refine kn' ?_ _ | refine kd' ?_ | refine ka' ?_ _)); exact BK199.out) hb); have n1_ := am' (below_step (by repeat (first | (with_reducible first | exact HB.out | apply ba' | apply bd' | apply be' | refine bs' ?_ GE199.out) | exact HB.out)) hb); have n2_ := am' (hbox); have n3_ := am' ((by rw [hg]; exact (below_size (by repeat (first | (with_reducible first | exact HB.out | apply ba' | apply bd' | apply be' | refine bs' ?_ GE199.out) | exact HB.out))) : w.heap.size ≤ gb200)); have n4_ := am' ((by rw [hg]; exact (below_size (by repeat (first | (with_reducible first | exact HB.out | apply ba' | apply bd' | apply be' | refine bs' ?_ GE199.out) | exact HB.out))) : w.heap.size ≤ gb200)); have n5_ := am' ((by rw [hg]; exact Nat.ne_of_lt (blk_lt (g := gb199) (o := .cells #[.slice A0_0 l0_0.length c0_0, .int .i64 a0_1] 69 (0, 0)) (by (with_reducible repeat (first | refine kn' ?_ _ | refine kd' ?_ | refine ka' ?_ _)); exact BK199.out)) : gb199 ≠ gb200)); have n6_ := am' ((by rw [hg]; exact Nat.ne_of_gt (blk_lt (g := gb199) (o := .cells #[.slice A0_0 l0_0.length c0_0, .int .i64 a0_1] 69 (0, 0)) (by (with_reducible repeat (first | refine kn' ?_ _ | refine kd' ?_ | refine ka' ?_ _)); exact BK199.out)) : gb200 ≠ gb199)); clear BK199; clear HB; have BK199 := n0_; have HB := n1_; have BK200 := n2_; have GW200 := n3_; have GE200 := n4_; have NB199_200 := n5_; have NB200_199 := n6_; clear n0_ n1_ n2_ n3_ n4_ n5_ n6_; clear hb hbox hg; have hnb8 := NB199_200.out; have hnc8 := NB200_199.out; have hcz9_0 : w7.cell? ⟨gb199, 0, none⟩ = some (.slice A0_0 l0_0.length c0_0) := (blk_cell BK199.out 0).trans rfl; have hcz9_1 : w7.cell? ⟨gb199, 1, none⟩ = some (.int .i64 a0_1) := (blk_cell BK199.out 1).trans rfl; have hfz9_0 := blk_frozen BK199.out 0; have hfz9_1 := blk_frozen BK199.out 1) | ((with_reducible refine gate_callee (f := 102) rfl ?_); refine goesL_ (some 6) rfl rfl Try.func102 (by kernel_rfl) rfl #[.agg #[.slice A0_0 l0_0.length c0_0, .int .i64 a0_1]] rfl (by (try simp only [List.map_toArray, List.map_cons, List.map_nil]); first | done | rfl | (simp only [List.length_drop, List.length_take]; rfl)) ?_; (with_reducible refine (impl_IsParty.calls _ _ l0_0 a0_1 true _ ?side1 ?side2 A3.out).mono ?_); (case side1 => repeat (first | exact (Kd.C_below HR0_0.out HB.out) | (with_reducible refine ca' ?_ _) | (with_reducible refine cn' ?_ _) | (with_reducible refine cd' ?_))); (case side2 => exact HC0_0.out); rintro e w10 ⟨rfl, hb⟩; refine ⟨_, rfl, ?_⟩; have n0_ := am' (blk_below (g := gb199) (o := .cells #[.slice A0_0 l0_0.length c0_0, .int .i64 a0_1] 69 (0, 0)) (by (with_reducible repeat (first | refine kn' ?_ _ | refine kd' ?_ | refine ka' ?_ _)); exact BK199.out) hb); have n1_ := am' (blk_below (g := gb200) (o := .cells #[.slice A1_0 l1_0.length c1_0, .bool a1_1] 71 (0, 0)) (by (with_reducible repeat (first | refine kn' ?_ _ | refine kd' ?_ | refine ka' ?_ _)); exact BK200.out) hb); have n2_ := am' (below_step (by repeat (first | (with_reducible first | exact HB.out | apply ba' | apply bd' | apply be' | refine bs' ?_ GE199.out | refine bs' ?_ GE200.out) | exact HB.out)) hb); clear BK199; clear BK200; clear HB; have BK199 := n0_; have BK200 := n1_; have HB := n2_; clear n0_ n1_ n2_; (try clear hb); (try clear hb2); (try clear hk); (try clear hi); have hcz11_0 : w10.cell? ⟨gb199, 0, none⟩ = some (.slice A0_0 l0_0.length c0_0) := (blk_cell BK199.out 0).trans rfl; have hcz11_1 : w10.cell? ⟨gb199, 1, none⟩ = some (.int .i64 a0_1) := (blk_cell BK199.out 1).trans rfl; have hfz11_0 := blk_frozen BK199.out 0; have hfz11_1 := blk_frozen BK199.out 1; have hcz12_0 : w10.cell? ⟨gb200, 0, none⟩ = some (.slice A1_0 l1_0.length c1_0) := (blk_cell BK200.out 0).trans rfl; have hcz12_1 : w10.cell? ⟨gb200, 1, none⟩ = some (.bool a1_1) := (blk_cell BK200.out 1).trans rfl; have hfz12_0 := blk_frozen BK200.out 0; have hfz12_1 := blk_frozen BK200.out 1) | (go_at_call 131; (with_reducible refine (impl_isStateOf.calls k (l0_0.length : Int) _ _ l1_0 a1_1 t202 _ ?side1 ?side2 A5.out).mono ?_); (case side1 => repeat (first | exact (Kd.C_below HR1_0.out HB.out) | (with_reducible refine ca' ?_ _) | (with_reducible refine cn' ?_ _) | (with_reducible refine cd' ?_))); (case side2 => exact HC1_0.out); rintro e w13 ⟨rfl, hb⟩; have n0_ := am' (blk_below (g := gb199) (o := .cells #[.slice A0_0 l0_0.length c0_0, .int .i64 a0_1] 69 (0, 0)) (by (with_reducible repeat (first | refine kn' ?_ _ | refine kd' ?_ | refine ka' ?_ _)); exact BK199.out) hb); have n1_ := am' (blk_below (g := gb200) (o := .cells #[.slice A1_0 l1_0.length c1_0, .bool a1_1] 71 (0, 0)) (by (with_reducible repeat (first | refine kn' ?_ _ | refine kd' ?_ | refine ka' ?_ _)); exact BK200.out) hb); have n2_ := am' (below_step (by repeat (first | (with_reducible first | exact HB.out | apply ba' | apply bd' | apply be' | refine bs' ?_ GE199.out | refine bs' ?_ GE200.out) | exact HB.out)) hb); clear BK199; clear BK200; clear HB; have BK199 := n0_; have BK200 := n1_; have HB := n2_; clear n0_ n1_ n2_; (try clear hb); (try clear hb2); (try clear hk); (try clear hi)))
  go_ret
  exact ⟨by first | rfl | (simp [errW_none, errW_some] <;> rfl) | (simp [*, errW_none, errW_some] <;> rfl), by repeat (first | (with_reducible first | exact HB.out | apply ba' | apply bd' | apply be' | refine bs' ?_ GE199.out | refine bs' ?_ GE200.out) | exact HB.out)⟩
 ·
  replace c4 := Bool.eq_false_iff.mpr c4
  subst c4; have H1 : (some false) = some r := by rw [if_neg (show ¬ (false = true) by decide)] at H; exact H
  clear H; have H := H1; clear H1; obtain rfl := Option.some.inj H
  go_enter Try.func96, Try.ntmps96
  go_wp2_with (first | ((with_reducible refine gate_dst (N := 2) rfl ?_); (try (refine gate_guard (by rfl) ?_; dsimp only)); refine box_event ?hg (N := 2) ?hd (cs := #[.slice A0_0 l0_0.length c0_0, .int .i64 a0_1]) (t := 69) ?hr ?_; (case hd => rfl); (case hg => rfl); (case hr => first | (go_simp; done) | (go_simp; rfl)); intro gb199 hg w14 hbox hb; have n0_ := am' (below_step (by repeat (first | (with_reducible first | exact HB.out | apply ba' | apply bd' | apply be') | exact HB.out)) hb); have n1_ := am' (hbox); have n2_ := am' ((by rw [hg]; exact (below_size (by repeat (first | (with_reducible first | exact HB.out | apply ba' | apply bd' | apply be') | exact HB.out))) : w.heap.size ≤ gb199)); have n3_ := am' ((by rw [hg]; exact (below_size (by repeat (first | (with_reducible first | exact HB.out | apply ba' | apply bd' | apply be') | exact HB.out))) : w.heap.size ≤ gb199)); clear HB; have HB := n0_; have BK199 := n1_; have GW199 := n2_; have GE199 := n3_; clear n0_ n1_ n2_ n3_; clear hb hbox hg) | ((with_reducible refine gate_dst (N := 3) rfl ?_); (try (refine gate_guard (by rfl) ?_; dsimp only)); refine box_event ?hg (N := 3) ?hd (cs := #[.slice A1_0 l1_0.length c1_0, .bool a1_1]) (t := 71) ?hr ?_; (case hd => rfl); (case hg => rfl); (case hr => first | (go_simp; done) | (go_simp; rfl)); intro gb200 hg w15 hbox hb; have n0_ := am' (blk_below (g := gb199) (o := .cells #[.slice A0_0 l0_0.length c0_0, .int .i64 a0_1] 69 (0, 0)) (by (with_reducible repeat (first | refine kn' ?_ _ | refine kd' ?_ | refine ka' ?_ _)); exact BK199.out) hb); have n1_ := am' (below_step (by repeat (first | (with_reducible first | exact HB.out | apply ba' | apply bd' | apply be' | refine bs' ?_ GE199.out) | exact HB.out)) hb); have n2_ := am' (hbox); have n3_ := am' ((by rw [hg]; exact (below_size (by repeat (first | (with_reducible first | exact HB.out | apply ba' | apply bd' | apply be' | refine bs' ?_ GE199.out) | exact HB.out))) : w.heap.size ≤ gb200)); have n4_ := am' ((by rw [hg]; exact (below_size (by repeat (first | (with_reducible first | exact HB.out | apply ba' | apply bd' | apply be' | refine bs' ?_ GE199.out) | exact HB.out))) : w.heap.size ≤ gb200)); have n5_ := am' ((by rw [hg]; exact Nat.ne_of_lt (blk_lt (g := gb199) (o := .cells #[.slice A0_0 l0_0.length c0_0, .int .i64 a0_1] 69 (0, 0)) (by (with_reducible repeat (first | refine kn' ?_ _ | refine kd' ?_ | refine ka' ?_ _)); exact BK199.out)) : gb199 ≠ gb200)); have n6_ := am' ((by rw [hg]; exact Nat.ne_of_gt (blk_lt (g := gb199) (o := .cells #[.slice A0_0 l0_0.length c0_0, .int .i64 a0_1] 69 (0, 0)) (by (with_reducible repeat (first | refine kn' ?_ _ | refine kd' ?_ | refine ka' ?_ _)); exact BK199.out)) : gb200 ≠ gb199)); clear BK199; clear HB; have BK199 := n0_; have HB := n1_; have BK200 := n2_; have GW200 := n3_; have GE200 := n4_; have NB199_200 := n5_; have NB200_199 := n6_; clear n0_ n1_ n2_ n3_ n4_ n5_ n6_; clear hb hbox hg; have hnb16 := NB199_200.out; have hnc16 := NB200_199.out; have hcz17_0 : w15.cell? ⟨gb199, 0, none⟩ = some (.slice A0_0 l0_0.length c0_0) := (blk_cell BK199.out 0).trans rfl; have hcz17_1 : w15.cell? ⟨gb199, 1, none⟩ = some (.int .i64 a0_1) := (blk_cell BK199.out 1).trans rfl; have hfz17_0 := blk_frozen BK199.out 0; have hfz17_1 := blk_frozen BK199.out 1) | ((with_reducible refine gate_callee (f := 102) rfl ?_); refine goesL_ (some 6) rfl rfl Try.func102 (by kernel_rfl) rfl #[.agg #[.slice A0_0 l0_0.length c0_0, .int .i64 a0_1]] rfl (by (try simp only [List.map_toArray, List.map_cons, List.map_nil]); first | done | rfl | (simp only [List.length_drop, List.length_take]; rfl)) ?_; (with_reducible refine (impl_IsParty.calls _ _ l0_0 a0_1 false _ ?side1 ?side2 A3.out).mono ?_); (case side1 => repeat (first | exact (Kd.C_below HR0_0.out HB.out) | (with_reducible refine ca' ?_ _) | (with_reducible refine cn' ?_ _) | (with_reducible refine cd' ?_))); (case side2 => exact HC0_0.out); rintro e w18 ⟨rfl, hb⟩; refine ⟨_, rfl, ?_⟩; have n0_ := am' (blk_below (g := gb199) (o := .cells #[.slice A0_0 l0_0.length c0_0, .int .i64 a0_1] 69 (0, 0)) (by (with_reducible repeat (first | refine kn' ?_ _ | refine kd' ?_ | refine ka' ?_ _)); exact BK199.out) hb); have n1_ := am' (blk_below (g := gb200) (o := .cells #[.slice A1_0 l1_0.length c1_0, .bool a1_1] 71 (0, 0)) (by (with_reducible repeat (first | refine kn' ?_ _ | refine kd' ?_ | refine ka' ?_ _)); exact BK200.out) hb); have n2_ := am' (below_step (by repeat (first | (with_reducible first | exact HB.out | apply ba' | apply bd' | apply be' | refine bs' ?_ GE199.out | refine bs' ?_ GE200.out) | exact HB.out)) hb); clear BK199; clear BK200; clear HB; have BK199 := n0_; have BK200 := n1_; have HB := n2_; clear n0_ n1_ n2_; (try clear hb); (try clear hb2); (try clear hk); (try clear hi)))
  go_ret
  exact ⟨by first | rfl | (simp [errW_none, errW_some] <;> rfl) | (simp [*, errW_none, errW_some] <;> rfl), by repeat (first | (with_reducible first | exact HB.out | apply ba' | apply bd' | apply be' | refine bs' ?_ GE199.out | refine bs' ?_ GE200.out) | exact HB.out)⟩
def slices_Clone_int_int.f (l0 : List Int) : Option (List Int) := if l0.length < 17592186044416 then some l0 else none
set_option maxHeartbeats 2000000 in
set_option maxRecDepth 100000 in
theorem slices_Clone_int_int.calls (A0 : Option Addr) (c0 : Nat) (l0 : List Int) (r : List Int) (w : World) (hr0 : Kd.C (Kd.int .i64) w A0 l0.length l0) (hc0 : l0.length ≤ c0) (h : slices_Clone_int_int.f l0 = some r) :
  Calls Try.prog 133 #[.slice A0 l0.length c0] w fun e w' => ∃ v0_ : Value, e = .returned (v0_) ∧ Kd.R (Kd.int .i64) 3 w' w.heap.size (fun _ => True) v0_ r ∧ Below w.heap.size w w' := by
 have hinfo : (Try.prog.info? 3).map (fun i => (i.zero, i.size, i.bytes)) = some (some (.int .i64 0), 1, 8) := by kernel_rfl
 obtain ⟨hlim, rfl⟩ : l0.length < 17592186044416 ∧ l0 = r := by
  unfold slices_Clone_int_int.f at h
  by_cases hl : l0.length < 17592186044416
  ·
   rw [if_pos hl] at h; exact ⟨hl, Option.some.inj h⟩
  ·
   rw [if_neg hl] at h; cases h
 clear h; cases A0 with
 | none =>
  obtain rfl : l0 = [] := by
   cases l0 with
   | nil => rfl
   | cons x l => obtain ⟨_, e, _⟩ := hr0.2.2 (by simp); cases e
  clear hr0 hc0 hlim hinfo; have heq := fun (w : World) (n c : Nat) => Lib.run_eql_slice_nil (P := Try.prog) w 22 3 none n c 0 0 Try.underlying22
  go_enter Try.func133, Try.ntmps133
  go_wp2
  go_ret
  exact ⟨_, rfl, Kd.R_nil _ _ _ _ _, Below.refl _ _⟩
 | some a =>
  have HR0 := am' hr0
  have HL := am' hlim
  have hie := am' hinfo
  clear hr0 hc0 hlim hinfo; have HB := am' (Below.refl w.heap.size w)
  have heq := fun (w : World) (n c : Nat) => Lib.run_eql_slice_nil (P := Try.prog) w 22 3 (some a) n c 0 0 Try.underlying22
  go_enter Try.func133, Try.ntmps133
  go_wp2_with (first | ((with_reducible refine gate_dst (N := 5) rfl ?_); refine Kd.R_lit (Kd.int .i64) _ 3 ?hg (N := 5) ?hd (xs := ([] : List Int)) (inner := []) (ok := fun _ => True) (okp := fun _ => True) ?hr ?hp (fun _ hk => hk) trivial (Below.refl _ _) (Nat.le_refl _) (by simp) ?_; (case hd => rfl); (case hg => rfl); (case hr => first | (go_simp; done) | (go_simp; rfl)); (case hp => exact (Reps.none _ _)); intro v210 w3 ho4 hb hg_ hnew_; clear hg_ hnew_; have n0_ := am' (Kd.R_lower ho4 (below_size HB.out)); have n1_ := am' (below_step HB.out hb); clear HB; have HO211 := n0_; have HB := n1_; clear n0_ n1_; clear hb ho4) | ((with_reducible refine gate_builtin (b := .append) (xs := #[.tmp 5, .tmp 6]) rfl ?_); at_builtin; refine Kd.R_append_rows (Kd.int .i64) (w0 := w) w.heap.size rfl (.tmp 5) (.tmp 6) 22 3 (.int .i64 0) 8 rfl Try.underlying22 hie.out rfl (by decide) (by omega) v210 [] l0 _ _ _ (fun _ => True) (fun _ => False) rfl rfl ?aO ?aR (fun _ _ h => h) (fun _ h => h.elim) ?aF ?aB ?aS ?aL ?_; (case aR => exact (Kd.C_below HR0.out HB.out)); (case aB => exact HB.out); (case aF => exact (fun _ _ => trivial)); (case aO => exact HO211.out); (case aS => exact (below_size HB.out)); (case aL => have := HL.out; simp; omega); intro v213 w5 ho hb hg hat; have n0_ := am' (hb); have n1_ := am' (ho); clear HB; clear HO211; have HB := n0_; have HO214 := n1_; clear n0_ n1_; clear ho hb hg hat))
  go_ret
  exact ⟨_, rfl, by simpa using HO214.out, HB.out⟩
def grpsF (most : Int) : List Int → List Int → List (List Int)
 | [], _ => []
 | x :: r, l => if (l.length : Int) < most then (l ++ [x]) :: (grpsF most r (l ++ [x]) ++ grpsF most r l) else []
def CbPost {σ : Type} (B : Nat) (Inv : σ → World → (Nat → Prop) → Prop) (s' : σ) (O : Nat → Prop) (W : World) (e : Ending) (W' : World) : Prop :=
 e = .returned (.tuple #[]) ∧ Below B W W' ∧ ∃ O', Inv s' W' O' ∧ Kept W W' O ∧ ∀ k, O' k → O k ∨ W.heap.size ≤ k
def EachOk {σ : Type} (B g : Nat) (lb : Array Value) (Inv : σ → World → (Nat → Prop) → Prop) (step : σ → List Int → Option σ) : Prop :=
 ∀ (s s' : σ) (O : Nat → Prop) (W0 W : World) (v : Value) (l : List Int), Inv s W0 O → Below W0.heap.size W0 W → Kd.R (Kd.int .i64) 3 W W0.heap.size (fun _ => True) v l → step s l = some s' →
  Calls Try.prog g (#[v] ++ lb) W (CbPost B Inv s' O W)
theorem C_one {w : World} {b : Nat} {x : Int} {e : Nat} (h : w.heap[b]? = some (.cells #[.int .i64 x] e (0, 0))) : Kd.C (Kd.int .i64) w (some ⟨b, 0, none⟩) 1 [x] := by
 refine ⟨rfl, by simp, fun _ => ⟨_, rfl, fun j p hj => ?_⟩⟩
 cases j with
 | zero =>
  cases hj
  exact ⟨[.int .i64 x], rfl, rfl, fun i u hu => by
   cases i with
   | zero => cases hu; exact (blk_cell h 0).trans rfl
   | succ i => simp at hu⟩
 | succ j => simp at hj
theorem four_blocks (w : World) (o0 o1 o2 o3 : Obj) : ((((w.alloc o0).alloc o1).alloc o2).alloc o3).heap[w.heap.size]? = some o0 ∧ ((((w.alloc o0).alloc o1).alloc o2).alloc o3).heap[w.heap.size + 1]? = some o1 ∧ ((((w.alloc o0).alloc o1).alloc o2).alloc o3).heap[w.heap.size + 1 + 1]? = some o2 ∧ ((((w.alloc o0).alloc o1).alloc o2).alloc o3).heap[w.heap.size + 1 + 1 + 1]? = some o3 ∧ Below w.heap.size w ((((w.alloc o0).alloc o1).alloc o2).alloc o3) := by
 have s1 := World.size_alloc w o0
 have s2 := World.size_alloc (w.alloc o0) o1
 have s3 := World.size_alloc ((w.alloc o0).alloc o1) o2
 refine ⟨ka' (ka' (ka' (heap_alloc_new w o0) _) _) _, ?_, ?_, ?_, ba' (ba' (ba' (ba' (Below.refl _ _) _) _) _) _⟩
 ·
  have := ka' (ka' (heap_alloc_new (w.alloc o0) o1) o2) o3
  rwa [s1] at this
 ·
  have := ka' (heap_alloc_new ((w.alloc o0).alloc o1) o2) o3
  rwa [s2, s1] at this
 ·
  have := heap_alloc_new (((w.alloc o0).alloc o1).alloc o2) o3
  rwa [s3, s2, s1] at this
structure GFr (w : World) (O : Nat → Prop) (g : Nat) (lb : Array Value) (people : List Int) (most : Int) (A : Option Addr) (c p0 p1 p2 p3 : Nat) : Prop where
 h0 : w.heap[p0]? = some (.cells #[.slice A people.length c] 22 (0, 0))
 h1 : w.heap[p1]? = some (.cells #[.int .i64 most] 3 (0, 0))
 h2 : w.heap[p2]? = some (.cells #[.func (.func g) #[] lb] 110 (0, 0))
 h3 : w.heap[p3]? = some (.cells #[.func (.func 132) #[] #[.pointer (some ⟨p0, 0, none⟩), .pointer (some ⟨p1, 0, none⟩), .pointer (some ⟨p2, 0, none⟩), .pointer (some ⟨p3, 0, none⟩)]] 132 (0, 0))
 n0 : ¬ O p0
 n1 : ¬ O p1
 n2 : ¬ O p2
 n3 : ¬ O p3
 hF : Kd.F (Kd.int .i64) w (fun k => ¬ O k) A people.length people
theorem GFr.kept {w W : World} {O O' : Nat → Prop} {g : Nat} {lb : Array Value} {people : List Int} {most : Int} {A : Option Addr} {c p0 p1 p2 p3 : Nat} (h : GFr w O g lb people most A c p0 p1 p2 p3) (hk : Kept w W O) (ho : ∀ k, O' k → O k ∨ w.heap.size ≤ k) : GFr W O' g lb people most A c p0 p1 p2 p3 := by
 have lt : ∀ {p : Nat} {o : Obj}, w.heap[p]? = some o → ¬ O p → ¬ O' p := fun hp hn h => by
  rcases ho _ h with q | q
  ·
   exact hn q
  ·
   have := blk_lt hp; omega
 exact ⟨blk_kept h.h0 hk h.n0, blk_kept h.h1 hk h.n1, blk_kept h.h2 hk h.n2, blk_kept h.h3 hk h.n3, lt h.h0 h.n0, lt h.h1 h.n1, lt h.h2 h.n2, lt h.h3 h.n3,
  Kd.F_mono (Kd.F_kept (Kd.F_bound h.hF) hk (fun _ q => q.1)) (fun k q q2 => by rcases ho k q2 with q3 | q3; exact q.1 q3; omega)⟩
theorem F_turn {w W : World} {O O' : Nat → Prop} {A : Option Addr} {n : Nat} {l : List Int} (h : Kd.F (Kd.int .i64) w (fun k => ¬ O k) A n l) (hk : Kept w W O) (ho : ∀ k, O' k → O k ∨ w.heap.size ≤ k) : Kd.F (Kd.int .i64) W (fun k => ¬ O' k) A n l :=
 Kd.F_mono (Kd.F_kept (Kd.F_bound h) hk (fun _ q => q.1)) (fun k q q2 => by rcases ho k q2 with q3 | q3; exact q.1 q3; omega)
section
variable {σ : Type} {B g : Nat} {lb : Array Value} {Inv : σ → World → (Nat → Prop) → Prop} {step : σ → List Int → Option σ}
set_option maxHeartbeats 2000000 in
set_option maxRecDepth 100000 in
theorem on_any (HE : EachOk B g lb Inv step) (HI : ∀ s W O, Inv s W O → ∀ k, O k → B ≤ k ∧ k < W.heap.size) (eg : ∀ args w, (callFunc g args).run Try.prog w = .ok (.enter g args) w)
  (people : List Int) (most : Int) (A : Option Addr) (c p0 p1 p2 p3 : Nat) (hpc : people.length ≤ c) (hpl : people.length ≤ 1048576) :
  ∀ (d f : Nat) (s s' : σ) (O : Nat → Prop) (w : World) (Al : Option Addr) (cl : Nat) (l : List Int), people.length - f ≤ d → f ≤ people.length → B ≤ w.heap.size → Inv s w O → GFr w O g lb people most A c p0 p1 p2 p3 → Kd.F (Kd.int .i64) w (fun k => ¬ O k) Al l.length l → l.length ≤ cl → l.length + (people.length - f) ≤ 1048576 →
   (grpsF most (people.drop f) l).foldlM step s = some s' →
   Calls Try.prog 132 #[.int .i64 f, .slice Al l.length cl, .pointer (some ⟨p0, 0, none⟩), .pointer (some ⟨p1, 0, none⟩), .pointer (some ⟨p2, 0, none⟩), .pointer (some ⟨p3, 0, none⟩)] w (CbPost B Inv s' O w) := by
 intro d; induction d using Nat.strongRecOn with
 | ind d ih =>
 intro f s s' O w Al cl l hd hf hB hinv hfr hl hlc hbig hfold; have HD := am' hd
 have HBG := am' hbig
 have IH := am' ih
 have HINV := am' hinv
 have HFR := am' hfr
 have HL := am' hl
 have HFO := am' hfold
 have HBB := am' (Below.refl B w)
 clear ih hinv hfr hl hfold hd hbig; have hinfo := am' (show (Try.prog.info? 3).map (fun i => (i.zero, i.size, i.bytes)) = some (some (.int .i64 0), 1, 8) by kernel_rfl)
 go_enter Try.func132, Try.ntmps132
 go_wp2
 go_loopg [8] (people.length - f) (fun gg v8 wr => ∃ (i : Nat) (s1 : σ) (O1 : Nat → Prop), v8 = .int .i64 i ∧ i ≤ people.length ∧ f ≤ i ∧ people.length - i ≤ gg ∧ Aside0 ((grpsF most (people.drop i) l).foldlM step s1 = some s') ∧ Aside0 (Inv s1 wr O1) ∧ Aside0 (GFr wr O1 g lb people most A c p0 p1 p2 p3) ∧ Aside0 (Kd.F (Kd.int .i64) wr (fun k => ¬ O1 k) Al l.length l) ∧ Aside0 (Below B w wr) ∧ Aside0 (Kept w wr O) ∧ Aside0 (∀ k, O1 k → O k ∨ w.heap.size ≤ k))
 case atStart => exact ⟨f, s, O, rfl, hf, Nat.le_refl _, Nat.le_refl _, HFO, HINV, HFR, HL, HBB, ⟨Kept.refl _ _⟩, ⟨fun _ h => .inl h⟩⟩
 case round =>
  obtain ⟨i, s1, O1, rfl, hi, hfi, hg, HF1, HI1, HG1, HL1, HB1, HK1, HO1⟩ := hrel
  have x0 : wr.cell? ⟨p0, 0, none⟩ = some (.slice A people.length c) := (blk_cell HG1.out.h0 0).trans rfl
  have x1 : wr.cell? ⟨p1, 0, none⟩ = some (.int .i64 most) := (blk_cell HG1.out.h1 0).trans rfl
  have x2 : wr.cell? ⟨p2, 0, none⟩ = some (.func (.func g) #[] lb) := (blk_cell HG1.out.h2 0).trans rfl
  have x3 : wr.cell? ⟨p3, 0, none⟩ = some (.func (.func 132) #[] #[.pointer (some ⟨p0, 0, none⟩), .pointer (some ⟨p1, 0, none⟩), .pointer (some ⟨p2, 0, none⟩), .pointer (some ⟨p3, 0, none⟩)]) := (blk_cell HG1.out.h3 0).trans rfl
  by_cases hlt : i < people.length
  ·
   by_cases hm : (l.length : Int) < most
   ·
    have hltz : (i : Int) < (people.length : Int) := by omega
    have hdz := decide_eq_true hltz
    have hdm := decide_eq_true hm
    obtain ⟨ad, e0, hx0⟩ := Kd.at_int (Kd.F_now HG1.out.hF) (i : Int) (by omega) hltz
    cases e0
    rw [Int.toNat_natCast] at hx0
    generalize hxx : rd people i = x at hx0
    have HX := am' hxx
    clear hxx; have HCL := am' (show slices_Clone_int_int.f l = some l from if_pos (by have := HBG.out; omega))
    have HHB := am' (Below.refl wr.heap.size wr)
    go_wp2_with fail
    go_region_held3? (fun w' => w'.cell? ⟨p0, 0, none⟩ = some (.slice (some ad) people.length c) ∧ w'.cell? (ad.add i) = some (.int .i64 x))
     (first | exact ⟨z0, z1⟩ | exact ⟨y0, y1⟩ | go_keep)
     (first | ((refine Kd.R_append_rows_step (Kd.int .i64) (w0 := wr) wr.heap.size (by rfl) (.tmp 24) (.tmp 29) 22 3 (.int .i64 0) 8 (by rfl) Try.underlying22 hinfo.out rfl (by decide) (by omega) vc l [x] (some ⟨_, 0, none⟩) 1 1 (fun _ => True) (fun _ => False) (by rfl) (by rfl) ?aO ?aR (fun _ _ h => h) (fun _ h => h.elim) (fun _ _ => trivial) ?aB ?aS ?aL ?_; (case aR => first | exact C_one (heap_alloc_new _ _) | exact C_one ((HB2.out.block _ (by simp)).trans (heap_alloc_new _ _))); (case aO => (with_reducible repeat (first | apply ra' | apply rn' | apply rw')); exact HO2.out); (case aB => repeat (first | (with_reducible first | exact HHB2.out | apply ba' | apply bd' | apply be') | exact HHB2.out)); (case aS => exact below_size (by repeat (first | (with_reducible first | exact HHB2.out | apply ba' | apply bd' | apply be') | exact HHB2.out))); (case aL => have := HBG.out; omega); intro v3 w3 ho hb hg hat; have HO3 := am' ho; have HB3 := am' hb; clear ho hb hg hat; have z0 := (HB3.out.cell (bl' wr _ x0)).trans x0; have z1 := (HB3.out.cell (bl' wr _ hx0)).trans hx0)) | ((go_at_call 133; refine (slices_Clone_int_int.calls Al cl l l _ ?_ hlc HCL.out).mono ?_; (repeat (first | exact Kd.F_now HL1.out | refine ca' ?_ _ | refine cd' ?_ | refine cn' ?_ _)); rintro e w2 ⟨vc, rfl, ho, hb⟩; have HHB2 := am' (below_step (by repeat (first | (with_reducible first | exact HHB.out | apply ba' | apply bd' | apply be') | exact HHB.out)) hb); have HO2 := am' (Kd.R_lower ho (below_size (by repeat (first | (with_reducible first | exact HHB.out | apply ba' | apply bd' | apply be') | exact HHB.out)))); have HB2 := am' hb; clear hb ho; have y0 := (HHB2.out.cell (bl' wr _ x0)).trans x0; have y1 := (HHB2.out.cell (bl' wr _ hx0)).trans hx0)))
    all_goals
     have HB1' := am' (HB1.out.trans (HB3.out.mono (Nat.le_trans hB HB1.out.size)))
     have HG3 := am' (HG1.out.kept (O' := O1) (Kept.of_below HB3.out O1) (fun _ h => .inl h))
     have HL3 := am' (F_turn (O' := O1) HL1.out (Kept.of_below HB3.out O1) (fun _ h => .inl h))
     obtain ⟨A3, c3, hv3, hlc3, hC3⟩ := Kd.R_reads HO3.out
     have HF3 := am' (show Kd.F (Kd.int .i64) w3 (fun k => ¬ O1 k) A3 (l ++ [x]).length (l ++ [x]) from Kd.F_mono (Kd.R_F (Kd.R_bound (hv3 ▸ HO3.out))) (fun k q h => by have := HI _ _ _ HI1.out k h; have := q.2.1; omega))
     have HK3 := am' (HK1.out.then_ (Kept.of_below HB3.out O1) HO1.out)
     have hdrop : people.drop i = x :: people.drop (i + 1) := by
      rw [List.drop_eq_getElem_cons hlt]
      congr 1
      rw [← HX.out]
      simp [rd, List.getD_eq_getElem?_getD, List.getElem?_eq_getElem hlt]
     have hf1 := HF1.out
     rw [hdrop, grpsF, if_pos hm, List.foldlM_cons] at hf1
     obtain ⟨s2, hs2, hf1⟩ := Option.bind_eq_some_iff.mp hf1
     rw [List.foldlM_append] at hf1
     obtain ⟨s3, hs3, hf1⟩ := Option.bind_eq_some_iff.mp hf1
     have HE2 := am' (HE s1 s2 O1 wr w3 v3 (l ++ [x]) HI1.out HB3.out HO3.out hs2)
     have HS3 := am' hs3
     have HF2 := am' hf1
     have HLC3 := am' hlc3
     have HN3 := am' (show (l ++ [x]).length = l.length + 1 by simp)
     clear hC3; generalize l ++ [x] = l2 at HO3 HF3 HE2 HS3 HLC3 HN3 hv3 hs2 hs3 hlc3
     subst hv3; clear HB3 HG1 HL1 HK1 HB1 hdrop hs2 hs3 hf1 hlc3; have e2 : w3.cell? ⟨p2, 0, none⟩ = some (.func (.func g) #[] lb) := (blk_cell HG3.out.h2 0).trans rfl
     go_wp2_with fail
     refine HE2.out.mono ?_
     rintro e w4 ⟨rfl, hb4, O2, hi4, hk4, ho4⟩
     have HG4 := am' (HG3.out.kept hk4 ho4)
     have HL4 := am' (F_turn HL3.out hk4 ho4)
     have HF4 := am' (F_turn HF3.out hk4 ho4)
     have HK4 := am' (HK3.out.then_ hk4 HO1.out)
     have HI4 := am' hi4
     have HB4 := am' (HB1'.out.trans hb4)
     have HO4 := am' (show ∀ k, O2 k → O k ∨ w.heap.size ≤ k from fun k h => by
      rcases ho4 k h with q | q
      ·
       exact HO1.out k q
      ·
       have := HK3.out.1; exact .inr (by omega))
     have hrec := IH.out (people.length - (i + 1)) (by have := HD.out; omega) (i + 1) s2 s3 O2 w4 A3 c3 l2 (Nat.le_refl _) (by omega) (Nat.le_trans hB HB4.out.size) hi4 HG4.out HF4.out HLC3.out (by have := HBG.out; have := HN3.out; omega) HS3.out
     rw [show ((i + 1 : Nat) : Int) = (i : Int) + 1 from rfl] at hrec
     have HREC := am' hrec
     clear hrec hb4 hi4 hk4 ho4 HE2 HG3 HL3 HF3 HK3 HB1' e2 x0 x1 x2 x3 hx0; have e3 : w4.cell? ⟨p3, 0, none⟩ = some (.func (.func 132) #[] #[.pointer (some ⟨p0, 0, none⟩), .pointer (some ⟨p1, 0, none⟩), .pointer (some ⟨p2, 0, none⟩), .pointer (some ⟨p3, 0, none⟩)]) := (blk_cell HG4.out.h3 0).trans rfl
     go_wp2_with (go_at_call 132; refine HREC.out.mono ?_; rintro e w5 ⟨rfl, hb5, O3, hi5, hk5, ho5⟩)
     go_roundg (people.length - (i + 1))
     case measure => omega
     case rel =>
      refine ⟨i + 1, s3, O3, by go_num, by omega, by omega, Nat.le_refl _, HF2, ⟨hi5⟩, ⟨HG4.out.kept hk5 ho5⟩, ⟨F_turn HL4.out hk5 ho5⟩, ⟨HB4.out.trans hb5⟩, ⟨HK4.out.then_ hk5 HO4.out⟩, ⟨fun k h => ?_⟩⟩
      rcases ho5 k h with q | q
      ·
       exact HO4.out k q
      ·
       have := HK4.out.1; exact .inr (by omega)
   ·
    have hdm := decide_eq_false hm
    have hltz : (i : Int) < (people.length : Int) := by omega
    have hdz := decide_eq_true hltz
    go_wp2
    go_end0
    refine ⟨rfl, HB1.out, O1, ?_, HK1.out, HO1.out⟩
    have hf1 := HF1.out
    rw [List.drop_eq_getElem_cons hlt, grpsF, if_neg (by omega)] at hf1
    cases hf1
    exact HI1.out
  ·
   have hnl : ¬ (i : Int) < (people.length : Int) := by omega
   have hdz := decide_eq_false hnl
   go_wp2
   go_end0
   refine ⟨rfl, HB1.out, O1, ?_, HK1.out, HO1.out⟩
   have hf1 := HF1.out
   rw [List.drop_eq_nil_of_le (by omega), grpsF] at hf1
   cases hf1
   exact HI1.out
set_option maxHeartbeats 2000000 in
set_option maxRecDepth 100000 in
theorem groups_any (HE : EachOk B g lb Inv step) (HI : ∀ s W O, Inv s W O → ∀ k, O k → B ≤ k ∧ k < W.heap.size) (eg : ∀ args w, (callFunc g args).run Try.prog w = .ok (.enter g args) w)
  (people : List Int) (most : Int) (A : Option Addr) (c : Nat) (hpc : people.length ≤ c) (hpl : people.length ≤ 1048576) (s s' : σ) (O : Nat → Prop) (w : World) (hB : B ≤ w.heap.size) (hinv : ∀ W, Below w.heap.size w W → Inv s W O) (hpe : Kd.F (Kd.int .i64) w (fun k => ¬ O k) A people.length people)
  (hfold : (grpsF most people []).foldlM step s = some s') :
  Calls Try.prog 97 #[.slice A people.length c, .int .i64 most, .func (.func g) #[] lb] w (CbPost B Inv s' O w) := by
 have HINV := am' hinv
 have HPE := am' hpe
 have HFO := am' hfold
 clear hinv hpe hfold; have ho : ∀ k, O k → k < w.heap.size := fun k h => (HI _ _ _ (HINV.out w (Below.refl _ _)) k h).2
 have HO := am' ho
 clear ho; go_enter Try.func97, Try.ntmps97
 go_wp2_with fail
 obtain ⟨b0, b1, b2, b3, hb4⟩ := four_blocks w (.cells #[.slice A people.length c] 22) (.cells #[.int .i64 most] 3) (.cells #[.func (.func g) #[] lb] 110) (.cells #[.func (.func 132) #[] #[.pointer (some ⟨w.heap.size, 0, none⟩), .pointer (some ⟨w.heap.size + 1, 0, none⟩), .pointer (some ⟨w.heap.size + 1 + 1, 0, none⟩), .pointer (some ⟨w.heap.size + 1 + 1 + 1, 0, none⟩)]] 132)
 have hpe4 := Kd.F_below HPE.out hb4
 have hin4 := HINV.out _ hb4
 generalize (((w.alloc (.cells #[.slice A people.length c] 22)).alloc (.cells #[.int .i64 most] 3)).alloc (.cells #[.func (.func g) #[] lb] 110)).alloc (.cells #[.func (.func 132) #[] #[.pointer (some ⟨w.heap.size, 0, none⟩), .pointer (some ⟨w.heap.size + 1, 0, none⟩), .pointer (some ⟨w.heap.size + 1 + 1, 0, none⟩), .pointer (some ⟨w.heap.size + 1 + 1 + 1, 0, none⟩)]] 132) = W4 at *
 have hsz := hb4.size
 have hcall := on_any HE HI eg people most A c (w.heap.size) (w.heap.size + 1) (w.heap.size + 1 + 1) (w.heap.size + 1 + 1 + 1) hpc hpl people.length 0 s s' O W4 none 0 [] (by omega) (by omega) (by omega) hin4
  ⟨b0, b1, b2, b3, fun h => by have := HO.out _ h; omega, fun h => by have := HO.out _ h; omega, fun h => by have := HO.out _ h; omega, fun h => by have := HO.out _ h; omega, hpe4⟩ (Kd.F_nil _ _ _) (Nat.le_refl _) (by simp; omega) HFO.out
 rw [show ((0 : Nat) : Int) = 0 from rfl, show ([] : List Int).length = 0 from rfl] at hcall
 refine hcall.mono ?_
 rintro e w5 ⟨rfl, hb5, O3, hi5, hk5, ho5⟩
 go_wp2
 go_end0
 refine ⟨rfl, (hb4.mono hB).trans hb5, O3, hi5, (Kept.of_below hb4 O).then_ hk5 (fun k h => .inl h), fun k h => ?_⟩
 rcases ho5 k h with q | q
 ·
  exact .inl q
 ·
  exact .inr (by omega)
end
def impl_State_side.l0 : Nat → Bool → List Int → List Bool → Int → Int → Option (List Int)
 | 0, _, _, _, _, _ => none
 | k + 1, x1, x5, x10, x11, x12 => if x12 < x11 then (if 0 ≤ x12 then (if x12 < (x10.length : Int) then (if ((rdOf false x10 x12) == x1) = true then (if x5.length < 17592186044416 then (impl_State_side.l0 k x1 (x5 ++ [x12]) x10 x11 (wrap64 (x12 + 1))) else (none)) else (impl_State_side.l0 k x1 x5 x10 x11 (wrap64 (x12 + 1)))) else (none)) else (none)) else (some x5)
def impl_State_side.f (k : Nat) (l0_0 : List Bool) (a0_1 : Bool) (a1 : Bool) : Option (List Int) := impl_State_side.l0 k a1 (([] : List Int)) l0_0 (l0_0.length : Int) 0
set_option maxHeartbeats 8000000 in
set_option maxRecDepth 100000 in
theorem impl_State_side.calls (k : Nat) (A0_0 : Option Addr) (c0_0 : Nat) (l0_0 : List Bool) (a0_1 : Bool) (a1 : Bool) (r : List Int) (w : World) (hr0_0 : Kd.C Kd.bool w A0_0 l0_0.length l0_0) (hc0_0 : l0_0.length ≤ c0_0) (h : impl_State_side.f k l0_0 a0_1 a1 = some r) :
  Calls Try.prog 98 #[.agg #[.slice A0_0 l0_0.length c0_0, .bool a0_1], .bool a1] w fun e w' => ∃ v0_ : Value, e = .returned (v0_) ∧ Kd.R (Kd.int .i64) 3 w' w.heap.size (fun _ => True) v0_ r ∧ Below w.heap.size w w' := by
 have hu71 := Try.underlying71
 have HR0_0 := am' hr0_0
 have HC0_0 := am' hc0_0
 clear hr0_0 hc0_0; have HB := am' (Below.refl w.heap.size w)
 have H : (impl_State_side.l0 k a1 (([] : List Int)) l0_0 (l0_0.length : Int) 0) = some r := h
 clear h; obtain ⟨y204, hy204⟩ : ∃ y_ : List Int, y_ = (([] : List Int)) := ⟨_, rfl⟩
 replace H : (impl_State_side.l0 k a1 y204 l0_0 (l0_0.length : Int) 0) = some r := by first | (rw [hy204]; with_reducible exact H) | (have H2_ := (Option.bind_some _ _).symm.trans H; rw [hy204]; with_reducible exact H2_) | (have H2_ := (Option.bind_some _ _).symm.trans H; with_reducible exact H2_) | with_reducible exact H | (rw [hy204]; exact H) | exact H
 have Ny204 := am' hy204
 clear hy204; have H' := am' H
 clear H; go_enter Try.func98, Try.ntmps98
 go_wp2_with (first | ((with_reducible refine gate_dst (N := 2) rfl ?_); refine box_event ?hg (N := 2) ?hd (cs := #[.slice A0_0 l0_0.length c0_0, .bool a0_1]) (t := 71) ?hr ?_; (case hd => rfl); (case hg => rfl); (case hr => first | (go_simp; done) | (go_simp; rfl)); intro gb203 hg w3 hbox hb; have n0_ := am' (below_step (by repeat (first | (with_reducible first | exact HB.out | apply ba' | apply bd' | apply be') | exact HB.out)) hb); have n1_ := am' (hbox); have n2_ := am' ((by rw [hg]; exact (below_size (by repeat (first | (with_reducible first | exact HB.out | apply ba' | apply bd' | apply be') | exact HB.out))) : w.heap.size ≤ gb203)); have n3_ := am' ((by rw [hg]; exact (below_size (by repeat (first | (with_reducible first | exact HB.out | apply ba' | apply bd' | apply be') | exact HB.out))) : w.heap.size ≤ gb203)); clear HB; have HB := n0_; have BK203 := n1_; have GW203 := n2_; have GE203 := n3_; clear n0_ n1_ n2_ n3_; clear hb hbox hg) | ((with_reducible refine gate_dst (N := 8) rfl ?_); refine Kd.R_lit (Kd.int .i64) _ 3 ?hg (N := 8) ?hd (xs := ([] : List Int)) (inner := []) (ok := fun _ => True) (okp := fun _ => True) ?hr ?hp (fun _ hk => hk) trivial (Below.refl _ _) (Nat.le_refl _) (by simp) ?_; (case hd => rfl); (case hg => rfl); (case hr => first | (go_simp; done) | (go_simp; rfl)); (case hp => exact (Reps.none _ _)); intro v205 w4 ho5 hb hg_ hnew_; clear hg_ hnew_; (first | rw [← Ny204.out] at ho5 | (simp only [Int.reduceToNat] at ho5; rw [← Ny204.out] at ho5)); have n0_ := am' (Kd.R_lower ho5 (below_size (by repeat (first | (with_reducible first | exact HB.out | apply ba' | apply bd' | apply be' | refine bs' ?_ GE203.out) | exact HB.out)))); have n1_ := am' (blk_below (g := gb203) (o := .cells #[.slice A0_0 l0_0.length c0_0, .bool a0_1] 71 (0, 0)) (by (with_reducible repeat (first | refine kn' ?_ _ | refine kd' ?_ | refine ka' ?_ _)); exact BK203.out) hb); have n2_ := am' (below_step (by repeat (first | (with_reducible first | exact HB.out | apply ba' | apply bd' | apply be' | refine bs' ?_ GE203.out) | exact HB.out)) hb); clear BK203; clear HB; have HO206 := n0_; have BK203 := n1_; have HB := n2_; clear n0_ n1_ n2_; clear hb ho5; have hcz6_0 : w4.cell? ⟨gb203, 0, none⟩ = some (.slice A0_0 l0_0.length c0_0) := (blk_cell BK203.out 0).trans rfl; have hcz6_1 : w4.cell? ⟨gb203, 1, none⟩ = some (.bool a0_1) := (blk_cell BK203.out 1).trans rfl; have hfz6_0 := blk_frozen BK203.out 0; have hfz6_1 := blk_frozen BK203.out 1))
 go_loopg [5, 12] k (fun kq v5 v12 w' => ∃ (x5_1 : List Int) (x12_1 : Int), v12 = .int .i64 x12_1 ∧ Aside0 (impl_State_side.l0 kq a1 x5_1 l0_0 (l0_0.length : Int) x12_1 = some r) ∧ Aside0 (kq ≤ k) ∧ Aside0 (Kd.R (Kd.int .i64) 3 w' w.heap.size (fun _ => True) v5 x5_1) ∧ Aside0 (w'.heap[gb203]? = some (.cells #[(.slice A0_0 l0_0.length c0_0), .bool a0_1] 71 (0, 0))) ∧ Aside0 (Below w.heap.size w w'))
 case atStart => exact ⟨(y204), (0), (by first | rfl | (simp; done) | (simp [*]; done)), H', ⟨Nat.le_refl _⟩, ⟨by (with_reducible repeat (first | apply ra' | apply rn' | apply rw')); exact HO206.out⟩, ⟨by (with_reducible repeat (first | refine kn' ?_ _ | refine kd' ?_ | refine ka' ?_ _)); exact BK203.out⟩, ⟨by repeat (first | (with_reducible first | exact HB.out | apply ba' | apply bd' | apply be' | refine bs' ?_ GE203.out) | exact HB.out)⟩⟩
 case round =>
  clear H'; try clear p2
  try clear hcz6_0
  try clear hcz6_1
  try clear hfz6_0
  try clear hfz6_1
  obtain ⟨x5_1, x12_1, rfl, HA, HK1, HO_5, BK203, HB⟩ := hrel
  cases gk with
  | zero => exact absurd HA.out (by simp [impl_State_side.l0])
  | succ k1 =>
   have H := HA.out
   clear HA; simp only [impl_State_side.l0] at H
   by_cases c7 : x12_1 < (l0_0.length : Int)
   ·
    rw [if_pos c7] at H; have c7b0 : decide (x12_1 < (l0_0.length : Int)) = true := decide_eq_true c7
    clear c7; by_cases c8 : 0 ≤ x12_1
    ·
     rw [if_pos c8] at H; have c8b0 : decide (0 ≤ x12_1) = true := decide_eq_true c8
     clear c8; by_cases c9 : x12_1 < (l0_0.length : Int)
     ·
      rw [if_pos c9] at H; have c9b0 : decide (x12_1 < (l0_0.length : Int)) = true := decide_eq_true c9
      clear c9; by_cases c10 : ((rdOf false l0_0 x12_1) == a1) = true
      ·
       rw [if_pos c10] at H; have c10b0 : ((rdOf false l0_0 x12_1) == a1) = true := c10
       (try (have c10b1 : decide ((rdOf false l0_0 x12_1) = a1) = true := by simpa using c10))
       (try (have c10b2 : ((rdOf false l0_0 x12_1) == a1) = true := by simpa using c10))
       clear c10; by_cases c11 : x5_1.length < 17592186044416
       ·
        rw [if_pos c11] at H; have LMc11 := am' c11
        clear c11; obtain ⟨y208, hy208⟩ : ∃ y_ : List Int, y_ = (x5_1 ++ [x12_1]) := ⟨_, rfl⟩
        replace H : (impl_State_side.l0 k1 a1 y208 l0_0 (l0_0.length : Int) (wrap64 (x12_1 + 1))) = some r := by first | (rw [hy208]; with_reducible exact H) | (have H2_ := (Option.bind_some _ _).symm.trans H; rw [hy208]; with_reducible exact H2_) | (have H2_ := (Option.bind_some _ _).symm.trans H; with_reducible exact H2_) | with_reducible exact H | (rw [hy208]; exact H) | exact H
        have Ny208 := am' hy208
        clear hy208; have H' := am' H
        clear H; have p207 : 0 ≤ (x12_1 : Int) := of_decide_eq_true (by first | (with_reducible assumption) | assumption)
        have q207 : x12_1 < (l0_0.length : Int) := of_decide_eq_true (by first | (with_reducible assumption) | assumption)
        obtain ⟨ad207, e207, hx207_0⟩ := Kd.at_bool HR0_0.out x12_1 p207 q207
        cases e207
        replace hx207_0 := (HB.out.cell (bl' w _ hx207_0)).trans hx207_0
        replace p207 := eq_true p207
        replace q207 := eq_true q207
        go_wp2_with (first | ((with_reducible refine gate_builtin (b := .append) (xs := #[.tmp 20, .tmp 22]) rfl ?_); at_builtin; refine Kd.R_append (Kd.int .i64) (w0 := w) w.heap.size rfl (.tmp 20) (.tmp 22) 22 3 (.int .i64 0) 8 rfl Try.underlying22 info3 rfl (by decide) (by omega) u5 x5_1 x12_1 [.int .i64 x12_1] (fun _ => True) (fun _ => False) rfl rfl ?aP (fun _ hk => hk.elim) ?aF ?aO ?aB ?aS ?aL ?_; (case aP => exact rfl); (case aB => exact (by repeat (first | (with_reducible first | exact HB.out | apply ba' | apply bd' | apply be' | refine bs' ?_ GE203.out) | exact HB.out))); (case aF => exact (fun _ _ => trivial)); (case aO => exact (by (with_reducible repeat (first | apply ra' | apply rn' | apply rw')); exact HO_5.out)); (case aS => exact (below_size (by repeat (first | (with_reducible first | exact HB.out | apply ba' | apply bd' | apply be' | refine bs' ?_ GE203.out) | exact HB.out)))); (case aL => have := LMc11.out; omega); intro v209 w12 ho hb hg hat; rw [← Ny208.out] at ho; have n0_ := am' (blk_grown (g := gb203) (o := .cells #[.slice (some ad207) l0_0.length c0_0, .bool a0_1] 71 (0, 0)) (by (with_reducible repeat (first | refine kn' ?_ _ | refine kd' ?_ | refine ka' ?_ _)); exact BK203.out) hg (Kd.R_ne HO_5.out BK203.out (by decide))); have n1_ := am' (hb); have n2_ := am' (ho); clear BK203; clear HB; clear HO_5; have BK203 := n0_; have HB := n1_; have HO210 := n2_; clear n0_ n1_ n2_; clear ho hb hg hat))
        go_roundg k1
        case measure => have := HK1.out; omega
        case rel => exact ⟨(y208), (wrap64 (x12_1 + 1)), (by first | rfl | (simp; done) | (simp [*]; done)), H', ⟨by have := HK1.out; omega⟩, ⟨by (with_reducible repeat (first | apply ra' | apply rn' | apply rw')); exact HO210.out⟩, ⟨by (with_reducible repeat (first | refine kn' ?_ _ | refine kd' ?_ | refine ka' ?_ _)); exact BK203.out⟩, ⟨by repeat (first | (with_reducible first | exact HB.out | apply ba' | apply bd' | apply be' | refine bs' ?_ GE203.out) | exact HB.out)⟩⟩
       ·
        rw [if_neg c11] at H; exact absurd H (by simp)
      ·
       rw [if_neg c10] at H; have c10b0 : ((rdOf false l0_0 x12_1) == a1) = false := by simpa using c10
       (try (have c10b1 : decide ((rdOf false l0_0 x12_1) = a1) = false := by simpa using c10))
       (try (have c10b2 : ((rdOf false l0_0 x12_1) == a1) = false := by simpa using c10))
       (try (have c10b3 : ¬ ((rdOf false l0_0 x12_1) = a1) := by simpa using c10))
       clear c10; have H' := am' H
       clear H; have p207 : 0 ≤ (x12_1 : Int) := of_decide_eq_true (by first | (with_reducible assumption) | assumption)
       have q207 : x12_1 < (l0_0.length : Int) := of_decide_eq_true (by first | (with_reducible assumption) | assumption)
       obtain ⟨ad207, e207, hx207_0⟩ := Kd.at_bool HR0_0.out x12_1 p207 q207
       cases e207
       replace hx207_0 := (HB.out.cell (bl' w _ hx207_0)).trans hx207_0
       replace p207 := eq_true p207
       replace q207 := eq_true q207
       go_wp2
       go_roundg k1
       case measure => have := HK1.out; omega
       case rel => exact ⟨(x5_1), (wrap64 (x12_1 + 1)), (by first | rfl | (simp; done) | (simp [*]; done)), H', ⟨by have := HK1.out; omega⟩, ⟨by (with_reducible repeat (first | apply ra' | apply rn' | apply rw')); exact HO_5.out⟩, ⟨by (with_reducible repeat (first | refine kn' ?_ _ | refine kd' ?_ | refine ka' ?_ _)); exact BK203.out⟩, ⟨by repeat (first | (with_reducible first | exact HB.out | apply ba' | apply bd' | apply be' | refine bs' ?_ GE203.out) | exact HB.out)⟩⟩
     ·
      rw [if_neg c9] at H; exact absurd H (by simp)
    ·
     rw [if_neg c8] at H; exact absurd H (by simp)
   ·
    rw [if_neg c7] at H; have c7b0 : decide (x12_1 < (l0_0.length : Int)) = false := decide_eq_false c7
    clear c7; obtain rfl := Option.some.inj H
    go_wp2
    go_ret
    exact ⟨_, by first | rfl | (simp [errW_none, errW_some] <;> rfl) | (simp [*, errW_none, errW_some] <;> rfl), by (with_reducible repeat (first | apply ra' | apply rn' | apply rw')); exact HO_5.out, by repeat (first | (with_reducible first | exact HB.out | apply ba' | apply bd' | apply be' | refine bs' ?_ GE203.out) | exact HB.out)⟩
def OutInv (B bo : Nat) (s : List (List Int)) (W : World) (O : Nat → Prop) : Prop :=
 ∃ v, W.heap[bo]? = some (.cells #[v] 38 (0, 0)) ∧ B ≤ bo ∧ Kd.S (Kd.slice 3 (Kd.int .i64)) 22 W B (fun k => k ≠ bo) v s ∧ O = (fun k => k = bo ∨ some k = v.ownBlock)
def pushS (s : List (List Int)) (l : List Int) : Option (List (List Int)) := if s.length < 1099511627776 then some (s ++ [l]) else none
theorem OutInv.lt {B bo : Nat} (s : List (List Int)) (W : World) (O : Nat → Prop) (h : OutInv B bo s W O) : ∀ k, O k → B ≤ k ∧ k < W.heap.size := by
 obtain ⟨v, hb, hB, hS, rfl⟩ := h
 rintro k (rfl | hk)
 ·
  exact ⟨hB, blk_lt hb⟩
 ·
  exact ⟨Kd.S_base hS k hk.symm, Kd.S_lt hS k hk.symm⟩
theorem OutInv.below {B bo : Nat} {s : List (List Int)} {W W1 : World} {O : Nat → Prop} (h : OutInv B bo s W O) (hb : Below W.heap.size W W1) : OutInv B bo s W1 O := by
 obtain ⟨v, h1, h2, h3, h4⟩ := h
 exact ⟨v, blk_below h1 hb, h2, Kd.S_below h3 hb, h4⟩
set_option maxHeartbeats 2000000 in
set_option maxRecDepth 100000 in
theorem trips1_each (B bo : Nat) : EachOk B 99 #[.pointer (some ⟨bo, 0, none⟩)] (OutInv B bo) pushS := by
 intro s s' O W0 W vl l hinv hbel hR hs; obtain ⟨v, hbo, hB, hS, rfl⟩ := hinv
 obtain ⟨hlim, rfl⟩ : s.length < 1099511627776 ∧ s ++ [l] = s' := by
  unfold pushS at hs
  by_cases h : s.length < 1099511627776
  ·
   rw [if_pos h] at hs; exact ⟨h, Option.some.inj hs⟩
  ·
   rw [if_neg h] at hs; cases hs
 obtain ⟨Al, cl, rfl, _, _⟩ := Kd.R_reads hR
 have hinfo := am' (show (Try.prog.info? 22).map (fun i => (i.zero, i.size, i.bytes)) = some (some (.slice none 0 0), 1, 24) by kernel_rfl)
 have HBO := am' (blk_below hbo hbel)
 have HS := am' (Kd.S_mono (Kd.S_old hS hbel) (ok' := fun k => k ≠ bo ∧ ¬ W0.heap.size ≤ k) (fun k hk => ⟨hk.1, by omega⟩))
 have HR := am' hR
 have HLT := am' (Nat.le_trans (Nat.le_of_lt (Nat.lt_of_le_of_lt hB (blk_lt hbo))) hbel.size)
 have HLO := am' (blk_lt hbo)
 have HSZ := am' hbel.size
 have HL := am' hlim
 have HBB := am' (Below.refl B W)
 have HBE := am' hB
 have HBW := am' (Nat.le_of_lt (Nat.lt_of_le_of_lt hB (blk_lt hbo)))
 have HVL := am' (Kd.S_lt hS)
 clear hbo hbel hS hR hs hlim hB; have x0 : W.cell? ⟨bo, 0, none⟩ = some v := (blk_cell HBO.out 0).trans rfl
 have x1 := blk_frozen HBO.out 0
 go_enter Try.func99, Try.ntmps99
 go_wp2_with (first | ((with_reducible refine gate_builtin (b := .append) (xs := #[.tmp 3, .tmp 5]) rfl ?_); at_builtin; refine Kd.S_append (Kd.slice 3 (Kd.int .i64)) (w0 := W) B rfl (.tmp 3) (.tmp 5) 38 22 (.slice none 0 0) 24 rfl Try.underlying38 hinfo.out rfl (by decide) (by omega) v s l [.slice Al l.length cl] (fun k => k ≠ bo) (fun k => W0.heap.size ≤ k ∧ k < W.heap.size ∧ k ≠ bo) rfl rfl ?aP ?aK ?aF ?aO ?aB ?aS ?aL ?_; (case aP => exact ⟨_, rfl, Kd.R_lower (Kd.R_mono (Kd.R_bound HR.out) (fun k hk => ⟨hk.2.1, hk.2.2.1, by have := HLO.out; have := hk.2.1; omega⟩)) HBW.out⟩); (case aK => exact fun k hk => ⟨hk.2.2, fun e => by have := HVL.out k e.symm; omega⟩); (case aF => exact fun k hk => by have := HLO.out; have := HSZ.out; omega); (case aO => exact Kd.S_mono HS.out (fun k hk => ⟨hk.1, fun q => hk.2 q.1⟩)); (case aB => exact HBB.out); (case aS => exact HLT.out); (case aL => have := HL.out; omega); intro v1 w1 ho hb hg hat; obtain ⟨A1, c1, e1⟩ := Kd.S_slice ho; rw [List.length_append, List.length_singleton] at e1; subst e1; have HY := am' ((hg.block bo (Nat.lt_of_lt_of_le HLO.out HSZ.out) (Kd.S_away HS.out (fun k hk => hk.1))).trans HBO.out); have y0 : w1.cell? ⟨bo, 0, none⟩ = some v := (blk_cell HY.out 0).trans rfl; have y1 := blk_frozen HY.out 0; have HO := am' ho; have HB1 := am' hb; have HG1 := am' hg; have HA1 := am' hat; clear ho hb hg hat))
 go_end0
 refine ⟨rfl, HB1.out.setCell HBE.out _, _, ⟨_, blk_put HY.out 0 _ rfl, HBE.out, Kd.S_far HO.out (p := ⟨bo, 0, none⟩) (fun k hk => hk) _, rfl⟩, ?_, fun k hk => ?_⟩
 ·
  exact Kept.setCell (Kept.of_grown HG1.out (Kept.refl W _) (fun k hk => .inl (.inr hk.symm))) (.inl (.inl rfl)) _
 ·
  rcases hk with rfl | hk
  ·
   exact .inl (.inl rfl)
  ·
   rcases HA1.out with q | ⟨b, q, hb⟩
   ·
    exact .inl (.inr (hk.trans q))
   ·
    rw [q] at hk
    cases hk
    exact .inr hb
theorem pushS_fold : ∀ (gs s : List (List Int)), s.length + gs.length < 1099511627776 → gs.foldlM pushS s = some (s ++ gs) := by
 intro gs; induction gs with
 | nil => intro s _; simp
 | cons g gs ih =>
  intro s h; simp only [List.length_cons] at h
  rw [List.foldlM_cons]
  unfold pushS at ih ⊢
  rw [if_pos (by omega)]
  show List.foldlM _ (s ++ [g]) gs = _
  rw [ih (s ++ [g]) (by simp; omega)]
  simp
theorem grpsF_len (m : Int) : ∀ (r l : List Int), (grpsF m r l).length + 1 ≤ 2 ^ r.length := by
 intro r; induction r with
 | nil => intro l; simp [grpsF]
 | cons x r ih =>
  intro l; simp only [grpsF]
  split
  ·
   have h1 := ih (l ++ [x]); have h2 := ih l
   simp only [List.length_cons, List.length_append, Nat.pow_succ]
   omega
  ·
   have : 0 < 2 ^ (x :: r).length := Nat.pow_pos (by omega)
   simp only [List.length_nil]; omega
theorem S_empty {α : Type} (d : Kd α) {e base b : Nat} {W : World} {ok : Nat → Prop} (h : W.heap[b]? = some (.cells #[] e (0, 0))) (hB : base ≤ b) (ho : ok b) : Kd.S d e W base ok (.slice (some ⟨b, 0, none⟩) 0 0) [] :=
 ⟨fun _ => 0, fun k hk => by cases hk; exact ho, [], ⟨by simp, .inr ⟨b, 0, #[], rfl, hB, h, Nat.le_refl _, by decide, by simp, by simp⟩⟩, Reps.none _ _⟩
theorem two_blocks (w : World) (o0 o1 : Obj) : ((w.alloc o0).alloc o1).heap[w.heap.size]? = some o0 ∧ ((w.alloc o0).alloc o1).heap[w.heap.size + 1]? = some o1 ∧ Below w.heap.size w ((w.alloc o0).alloc o1) := by
 have s1 := World.size_alloc w o0
 refine ⟨ka' (heap_alloc_new w o0) _, ?_, ba' (ba' (Below.refl _ _) _) _⟩
 have := heap_alloc_new (w.alloc o0) o1
 rwa [s1] at this
def impl_TripsOf.f (k : Nat) (l0_0 : List Int) (a0_1 : Int) (l1_0 : List Bool) (a1_1 : Bool) : Option (List (List Int) × Bool) :=
 (impl_Party_hasState.f k l0_0 a0_1 l1_0 a1_1).bind fun t => if t = true then ((impl_State_side.f k l1_0 a1_1 a1_1).bind fun sd => if sd.length ≤ 20 then some (grpsF a0_1 sd [], true) else none) else some ([], false)
set_option maxHeartbeats 2000000 in
set_option maxRecDepth 100000 in
theorem impl_TripsOf.calls (k : Nat) (A0_0 : Option Addr) (c0_0 : Nat) (l0_0 : List Int) (a0_1 : Int) (A1_0 : Option Addr) (c1_0 : Nat) (l1_0 : List Bool) (a1_1 : Bool) (r1 : List (List Int)) (r2 : Bool) (w : World) (hr0_0 : Kd.C (Kd.int .i64) w A0_0 l0_0.length l0_0) (hc0_0 : l0_0.length ≤ c0_0) (hr1_0 : Kd.C Kd.bool w A1_0 l1_0.length l1_0) (hc1_0 : l1_0.length ≤ c1_0) (h : impl_TripsOf.f k l0_0 a0_1 l1_0 a1_1 = some (r1, r2)) :
  Calls Try.prog 51 #[.agg #[.slice A0_0 l0_0.length c0_0, .int .i64 a0_1], .agg #[.slice A1_0 l1_0.length c1_0, .bool a1_1]] w fun e w' => ∃ v0_ : Value, e = .returned (.tuple #[v0_, .bool r2]) ∧ Kd.S (Kd.slice 3 (Kd.int .i64)) 22 w' w.heap.size (fun _ => True) v0_ r1 ∧ Below w.heap.size w w' := by
 have hu0 := Try.underlying69
 have hu1 := Try.underlying71
 unfold impl_TripsOf.f at h
 obtain ⟨t, ht, h⟩ := Option.bind_eq_some_iff.mp h
 have HS := am' (fun (W : World) (hb : Below w.heap.size w W) => impl_Party_hasState.calls k A0_0 c0_0 l0_0 a0_1 A1_0 c1_0 l1_0 a1_1 t W (Kd.C_below hr0_0 hb) hc0_0 (Kd.C_below hr1_0 hb) hc1_0 ht)
 have HB0 := am' (two_blocks w (.cells #[.slice A0_0 l0_0.length c0_0, .int .i64 a0_1] 69) (.cells #[.slice A1_0 l1_0.length c1_0, .bool a1_1] 71))
 cases t with
 | false =>
  simp only [Bool.false_eq_true, if_false, Option.some.injEq, Prod.mk.injEq] at h
  obtain ⟨rfl, rfl⟩ := h
  clear hr0_0 hr1_0 ht; go_enter Try.func51, Try.ntmps51
  go_wp2_with (go_at_call 96; refine (HS.out _ HB0.out.2.2).mono ?_; rintro e w2 ⟨rfl, hb⟩; have HB2 := am' (below_step HB0.out.2.2 hb); clear hb)
  go_ret2
  exact ⟨_, rfl, Kd.S_nil _ _ _ _ _, HB2.out⟩
 | true =>
  simp only [if_true] at h
  obtain ⟨sd, hsd, h⟩ := Option.bind_eq_some_iff.mp h
  have HD := am' (fun (W : World) (hb : Below w.heap.size w W) => impl_State_side.calls k A1_0 c1_0 l1_0 a1_1 a1_1 sd W (Kd.C_below hr1_0 hb) hc1_0 hsd)
  by_cases hlen : sd.length ≤ 20
  ·
   rw [if_pos hlen] at h; simp only [Option.some.injEq, Prod.mk.injEq] at h
   obtain ⟨rfl, rfl⟩ := h
   have HLEN := am' hlen
   clear hr0_0 hr1_0 ht hsd hlen; go_enter Try.func51, Try.ntmps51
   go_wp2_with (go_at_call 96; refine (HS.out _ HB0.out.2.2).mono ?_; rintro e w2 ⟨rfl, hb⟩; have HB2 := am' (below_step HB0.out.2.2 hb); have HP0 := am' (blk_below HB0.out.1 hb); have HP1 := am' (blk_below HB0.out.2.1 hb); clear hb)
   have HB3 := am' (two_blocks w2 (.cells #[] 22) (.cells #[.slice (some ⟨w2.heap.size, 0, none⟩) 0 0] 38))
   generalize hW3 : (w2.alloc (.cells #[] 22)).alloc (.cells #[.slice (some ⟨w2.heap.size, 0, none⟩) 0 0] 38) = W3 at HB3 ⊢
   clear hW3; have HW3 := am' (below_step HB2.out HB3.out.2.2)
   have Q0 := am' (blk_below HP0.out HB3.out.2.2)
   have Q1 := am' (blk_below HP1.out HB3.out.2.2)
   have HLT := am' (blk_lt HB3.out.2.1)
   have HIN := am' (show OutInv w.heap.size (w2.heap.size + 1) [] W3 (fun k => k = w2.heap.size + 1 ∨ some k = (Value.slice (some ⟨w2.heap.size, 0, none⟩) 0 0).ownBlock) from
    ⟨_, HB3.out.2.1, by have := HB2.out.size; omega, S_empty _ HB3.out.1 HB2.out.size (by omega), rfl⟩)
   have x0 : W3.cell? ⟨w.heap.size + 1, 0, none⟩ = some (.slice A1_0 l1_0.length c1_0) := (blk_cell Q1.out 0).trans rfl
   have x1 : W3.cell? ⟨w.heap.size + 1, 1, none⟩ = some (.bool a1_1) := (blk_cell Q1.out 1).trans rfl
   have x2 : W3.cell? ⟨w.heap.size, 1, none⟩ = some (.int .i64 a0_1) := (blk_cell Q0.out 1).trans rfl
   have HZ := am' (show w.heap.size + 1 < w2.heap.size from blk_lt HP1.out)
   have HR0 := am' (Below.refl W3.heap.size W3)
   go_region_held3 (fun w' => w'.cell? ⟨w.heap.size + 1, 0, none⟩ = some (.slice A1_0 l1_0.length c1_0) ∧ w'.cell? ⟨w.heap.size + 1, 1, none⟩ = some (.bool a1_1) ∧ w'.cell? ⟨w.heap.size, 1, none⟩ = some (.int .i64 a0_1))
    (first | exact ⟨z0, z1, z2⟩ | exact ⟨y0, y1, y2⟩ | go_keep)
    (first
     | ((go_at_call 98; refine (HD.out _ ?_).mono ?_; (repeat (first | (with_reducible exact HW3.out) | apply be' | apply bd')); rintro e w4 ⟨vs, rfl, ho, hb⟩; have HR4 := am' (below_step (by repeat (first | (with_reducible exact HR0.out) | apply be' | apply bd')) hb); have HO4 := am' ho; clear hb ho; have y0 := (HR4.out.cell (bl' W3 _ x0)).trans x0; have y1 := (HR4.out.cell (bl' W3 _ x1)).trans x1; have y2 := (HR4.out.cell (bl' W3 _ x2)).trans x2; obtain ⟨As, cs, es, hcs, _⟩ := Kd.R_reads HO4.out; subst es; have HCS := am' hcs; clear hcs))
     | ((go_at_call 97; refine (groups_any (trips1_each w.heap.size (w2.heap.size + 1)) OutInv.lt (enters_of Try.func99 (by kernel_rfl) rfl) sd a0_1 As cs HCS.out (by have := HLEN.out; omega) [] (grpsF a0_1 sd []) _ _ ?gB (fun W hb => HIN.out.below (below_step HR4.out (by (first | exact hb | (simpa using hb))))) ?gF (pushS_fold _ [] ?gL)).mono ?_; (case gB => exact Nat.le_trans HW3.out.size (by have := HR4.out.size; first | exact this | simpa using this)); (case gF => exact Kd.F_mono (Kd.R_F (Kd.R_bound HO4.out)) (fun k hk q => by have := HLT.out; have := hk.2.1; rcases q with q | q; (subst q; (simp at this; omega)); (cases q; (simp at this; omega)))); (case gL => have := grpsF_len a0_1 sd []; have h20 : 2 ^ sd.length ≤ 2 ^ 20 := Nat.pow_le_pow_right (by omega) HLEN.out; simp; omega); rintro e w5 ⟨rfl, hb5, O5, ⟨v5, hv5, _, hS5, _⟩, hk5, ho5⟩; have HV5 := am' hv5; have HS5 := am' hS5; have HB5 := am' hb5; have z0 := cell_kept y0 hk5 (fun q => by have := HZ.out; rcases q with q | q; (simp at q; omega); (have q := Option.some.inj (show some _ = some _ from q); simp at q; omega)); have z1 := cell_kept y1 hk5 (fun q => by have := HZ.out; rcases q with q | q; (simp at q; omega); (have q := Option.some.inj (show some _ = some _ from q); simp at q; omega)); have z2 := cell_kept y2 hk5 (fun q => by have := HZ.out; rcases q with q | q; (simp at q; omega); (have q := Option.some.inj (show some _ = some _ from q); simp at q; omega)); clear hv5 hS5 hb5 hk5 ho5)))
   all_goals
    have hv5 : w5.cell? ⟨w2.heap.size + 1, 0, none⟩ = some v5 := (blk_cell HV5.out 0).trans rfl
    go_wp2
    go_ret2
    exact ⟨_, rfl, Kd.S_mono HS5.out (fun _ _ => trivial), (HW3.out.trans (HR4.out.mono (by have := HW3.out.size; omega))).trans HB5.out⟩
  ·
   rw [if_neg hlen] at h; cases h
def laws_eqParty.f (k : Nat) (l0_0 : List Int) (a0_1 : Int) (l1_0 : List Int) (a1_1 : Int) : Option (Bool) := (laws_eqIntS.f k l0_0 l1_0).bind fun t213 => (if t213 = true then (if a0_1 = a1_1 then (some true) else (some false)) else (some false))
set_option maxHeartbeats 8000000 in
set_option maxRecDepth 100000 in
theorem laws_eqParty.calls (k : Nat) (A0_0 : Option Addr) (c0_0 : Nat) (l0_0 : List Int) (a0_1 : Int) (A1_0 : Option Addr) (c1_0 : Nat) (l1_0 : List Int) (a1_1 : Int) (r : Bool) (w : World) (hr0_0 : Kd.C (Kd.int .i64) w A0_0 l0_0.length l0_0) (hc0_0 : l0_0.length ≤ c0_0) (hr1_0 : Kd.C (Kd.int .i64) w A1_0 l1_0.length l1_0) (hc1_0 : l1_0.length ≤ c1_0) (h : laws_eqParty.f k l0_0 a0_1 l1_0 a1_1 = some r) :
  Calls Try.prog 52 #[.agg #[.slice A0_0 l0_0.length c0_0, .int .i64 a0_1], .agg #[.slice A1_0 l1_0.length c1_0, .int .i64 a1_1]] w fun e w' => e = .returned (.bool r) ∧ Below w.heap.size w w' := by
 have hu69 := Try.underlying69
 have HR0_0 := am' hr0_0
 have HC0_0 := am' hc0_0
 clear hr0_0 hc0_0; have HR1_0 := am' hr1_0
 have HC1_0 := am' hc1_0
 clear hr1_0 hc1_0; have HB := am' (Below.refl w.heap.size w)
 have H : ((laws_eqIntS.f k l0_0 l1_0).bind fun t213 => (if t213 = true then (if a0_1 = a1_1 then (some true) else (some false)) else (some false))) = some r := h
 clear h; replace H := Option.bind_eq_some_iff.mp H
 obtain ⟨t213, A30, H⟩ := H
 replace H : (if t213 = true then (if a0_1 = a1_1 then (some true) else (some false)) else (some false)) = some r := H
 have A3 := am' A30
 clear A30; by_cases c4 : t213 = true
 ·
  subst c4; have H1 : (if a0_1 = a1_1 then (some true) else (some false)) = some r := by rw [if_pos rfl] at H; exact H
  clear H; have H := H1; clear H1; by_cases c5 : a0_1 = a1_1
  ·
   rw [if_pos c5] at H; have c5b0 : (a0_1 == a1_1) = true := beq_iff_eq.mpr c5
   have c5b1 : (a0_1 != a1_1) = false := bne_eq_false_iff_eq.mpr c5
   clear c5; obtain rfl := Option.some.inj H
   go_enter Try.func52, Try.ntmps52
   go_wp2_with (first | ((with_reducible refine gate_dst (N := 2) rfl ?_); refine box_event ?hg (N := 2) ?hd (cs := #[.slice A0_0 l0_0.length c0_0, .int .i64 a0_1]) (t := 69) ?hr ?_; (case hd => rfl); (case hg => rfl); (case hr => first | (go_simp; done) | (go_simp; rfl)); intro gb211 hg w6 hbox hb; have n0_ := am' (below_step (by repeat (first | (with_reducible first | exact HB.out | apply ba' | apply bd' | apply be') | exact HB.out)) hb); have n1_ := am' (hbox); have n2_ := am' ((by rw [hg]; exact (below_size (by repeat (first | (with_reducible first | exact HB.out | apply ba' | apply bd' | apply be') | exact HB.out))) : w.heap.size ≤ gb211)); have n3_ := am' ((by rw [hg]; exact (below_size (by repeat (first | (with_reducible first | exact HB.out | apply ba' | apply bd' | apply be') | exact HB.out))) : w.heap.size ≤ gb211)); clear HB; have HB := n0_; have BK211 := n1_; have GW211 := n2_; have GE211 := n3_; clear n0_ n1_ n2_ n3_; clear hb hbox hg) | ((with_reducible refine gate_dst (N := 3) rfl ?_); refine box_event ?hg (N := 3) ?hd (cs := #[.slice A1_0 l1_0.length c1_0, .int .i64 a1_1]) (t := 69) ?hr ?_; (case hd => rfl); (case hg => rfl); (case hr => first | (go_simp; done) | (go_simp; rfl)); intro gb212 hg w7 hbox hb; have n0_ := am' (blk_below (g := gb211) (o := .cells #[.slice A0_0 l0_0.length c0_0, .int .i64 a0_1] 69 (0, 0)) (by (with_reducible repeat (first | refine kn' ?_ _ | refine kd' ?_ | refine ka' ?_ _)); exact BK211.out) hb); have n1_ := am' (below_step (by repeat (first | (with_reducible first | exact HB.out | apply ba' | apply bd' | apply be' | refine bs' ?_ GE211.out) | exact HB.out)) hb); have n2_ := am' (hbox); have n3_ := am' ((by rw [hg]; exact (below_size (by repeat (first | (with_reducible first | exact HB.out | apply ba' | apply bd' | apply be' | refine bs' ?_ GE211.out) | exact HB.out))) : w.heap.size ≤ gb212)); have n4_ := am' ((by rw [hg]; exact (below_size (by repeat (first | (with_reducible first | exact HB.out | apply ba' | apply bd' | apply be' | refine bs' ?_ GE211.out) | exact HB.out))) : w.heap.size ≤ gb212)); have n5_ := am' ((by rw [hg]; exact Nat.ne_of_lt (blk_lt (g := gb211) (o := .cells #[.slice A0_0 l0_0.length c0_0, .int .i64 a0_1] 69 (0, 0)) (by (with_reducible repeat (first | refine kn' ?_ _ | refine kd' ?_ | refine ka' ?_ _)); exact BK211.out)) : gb211 ≠ gb212)); have n6_ := am' ((by rw [hg]; exact Nat.ne_of_gt (blk_lt (g := gb211) (o := .cells #[.slice A0_0 l0_0.length c0_0, .int .i64 a0_1] 69 (0, 0)) (by (with_reducible repeat (first | refine kn' ?_ _ | refine kd' ?_ | refine ka' ?_ _)); exact BK211.out)) : gb212 ≠ gb211)); clear BK211; clear HB; have BK211 := n0_; have HB := n1_; have BK212 := n2_; have GW212 := n3_; have GE212 := n4_; have NB211_212 := n5_; have NB212_211 := n6_; clear n0_ n1_ n2_ n3_ n4_ n5_ n6_; clear hb hbox hg; have hnb8 := NB211_212.out; have hnc8 := NB212_211.out; have hcz9_0 : w7.cell? ⟨gb211, 0, none⟩ = some (.slice A0_0 l0_0.length c0_0) := (blk_cell BK211.out 0).trans rfl; have hcz9_1 : w7.cell? ⟨gb211, 1, none⟩ = some (.int .i64 a0_1) := (blk_cell BK211.out 1).trans rfl; have hfz9_0 := blk_frozen BK211.out 0; have hfz9_1 := blk_frozen BK211.out 1; have hcz10_0 : w7.cell? ⟨gb212, 0, none⟩ = some (.slice A1_0 l1_0.length c1_0) := (blk_cell BK212.out 0).trans rfl; have hcz10_1 : w7.cell? ⟨gb212, 1, none⟩ = some (.int .i64 a1_1) := (blk_cell BK212.out 1).trans rfl; have hfz10_0 := blk_frozen BK212.out 0; have hfz10_1 := blk_frozen BK212.out 1) | ((with_reducible refine gate_callee (f := 65) rfl ?_); refine goesL_ (some 9) rfl rfl Try.func65 (by kernel_rfl) rfl #[.slice A0_0 l0_0.length c0_0, .slice A1_0 l1_0.length c1_0] rfl (by (try simp only [List.map_toArray, List.map_cons, List.map_nil]); first | done | rfl | (simp only [List.length_drop, List.length_take]; rfl)) ?_; (with_reducible refine (laws_eqIntS.calls k _ _ l0_0 _ _ l1_0 true _ ?side1 ?side2 ?side3 ?side4 A3.out).mono ?_); (case side1 => repeat (first | exact (Kd.C_below HR0_0.out HB.out) | (with_reducible refine ca' ?_ _) | (with_reducible refine cn' ?_ _) | (with_reducible refine cd' ?_))); (case side2 => exact HC0_0.out); (case side3 => repeat (first | exact (Kd.C_below HR1_0.out HB.out) | (with_reducible refine ca' ?_ _) | (with_reducible refine cn' ?_ _) | (with_reducible refine cd' ?_))); (case side4 => exact HC1_0.out); rintro e w' ⟨rfl, ⟨nd, rfl⟩⟩; refine ⟨_, rfl, ?_⟩))
   go_ret
   exact ⟨by first | rfl | (simp [errW_none, errW_some] <;> rfl) | (simp [*, errW_none, errW_some] <;> rfl), by repeat (first | (with_reducible first | exact HB.out | apply ba' | apply bd' | apply be' | refine bs' ?_ GE211.out | refine bs' ?_ GE212.out) | exact HB.out)⟩
  ·
   rw [if_neg c5] at H; have c5b0 : (a0_1 == a1_1) = false := beq_eq_false_iff_ne.mpr c5
   have c5b1 : (a0_1 != a1_1) = true := bne_iff_ne.mpr c5
   obtain rfl := Option.some.inj H
   go_enter Try.func52, Try.ntmps52
   go_wp2_with (first | ((with_reducible refine gate_dst (N := 2) rfl ?_); refine box_event ?hg (N := 2) ?hd (cs := #[.slice A0_0 l0_0.length c0_0, .int .i64 a0_1]) (t := 69) ?hr ?_; (case hd => rfl); (case hg => rfl); (case hr => first | (go_simp; done) | (go_simp; rfl)); intro gb211 hg w11 hbox hb; have n0_ := am' (below_step (by repeat (first | (with_reducible first | exact HB.out | apply ba' | apply bd' | apply be') | exact HB.out)) hb); have n1_ := am' (hbox); have n2_ := am' ((by rw [hg]; exact (below_size (by repeat (first | (with_reducible first | exact HB.out | apply ba' | apply bd' | apply be') | exact HB.out))) : w.heap.size ≤ gb211)); have n3_ := am' ((by rw [hg]; exact (below_size (by repeat (first | (with_reducible first | exact HB.out | apply ba' | apply bd' | apply be') | exact HB.out))) : w.heap.size ≤ gb211)); clear HB; have HB := n0_; have BK211 := n1_; have GW211 := n2_; have GE211 := n3_; clear n0_ n1_ n2_ n3_; clear hb hbox hg) | ((with_reducible refine gate_dst (N := 3) rfl ?_); refine box_event ?hg (N := 3) ?hd (cs := #[.slice A1_0 l1_0.length c1_0, .int .i64 a1_1]) (t := 69) ?hr ?_; (case hd => rfl); (case hg => rfl); (case hr => first | (go_simp; done) | (go_simp; rfl)); intro gb212 hg w12 hbox hb; have n0_ := am' (blk_below (g := gb211) (o := .cells #[.slice A0_0 l0_0.length c0_0, .int .i64 a0_1] 69 (0, 0)) (by (with_reducible repeat (first | refine kn' ?_ _ | refine kd' ?_ | refine ka' ?_ _)); exact BK211.out) hb); have n1_ := am' (below_step (by repeat (first | (with_reducible first | exact HB.out | apply ba' | apply bd' | apply be' | refine bs' ?_ GE211.out) | exact HB.out)) hb); have n2_ := am' (hbox); have n3_ := am' ((by rw [hg]; exact (below_size (by repeat (first | (with_reducible first | exact HB.out | apply ba' | apply bd' | apply be' | refine bs' ?_ GE211.out) | exact HB.out))) : w.heap.size ≤ gb212)); have n4_ := am' ((by rw [hg]; exact (below_size (by repeat (first | (with_reducible first | exact HB.out | apply ba' | apply bd' | apply be' | refine bs' ?_ GE211.out) | exact HB.out))) : w.heap.size ≤ gb212)); have n5_ := am' ((by rw [hg]; exact Nat.ne_of_lt (blk_lt (g := gb211) (o := .cells #[.slice A0_0 l0_0.length c0_0, .int .i64 a0_1] 69 (0, 0)) (by (with_reducible repeat (first | refine kn' ?_ _ | refine kd' ?_ | refine ka' ?_ _)); exact BK211.out)) : gb211 ≠ gb212)); have n6_ := am' ((by rw [hg]; exact Nat.ne_of_gt (blk_lt (g := gb211) (o := .cells #[.slice A0_0 l0_0.length c0_0, .int .i64 a0_1] 69 (0, 0)) (by (with_reducible repeat (first | refine kn' ?_ _ | refine kd' ?_ | refine ka' ?_ _)); exact BK211.out)) : gb212 ≠ gb211)); clear BK211; clear HB; have BK211 := n0_; have HB := n1_; have BK212 := n2_; have GW212 := n3_; have GE212 := n4_; have NB211_212 := n5_; have NB212_211 := n6_; clear n0_ n1_ n2_ n3_ n4_ n5_ n6_; clear hb hbox hg; have hnb13 := NB211_212.out; have hnc13 := NB212_211.out; have hcz14_0 : w12.cell? ⟨gb211, 0, none⟩ = some (.slice A0_0 l0_0.length c0_0) := (blk_cell BK211.out 0).trans rfl; have hcz14_1 : w12.cell? ⟨gb211, 1, none⟩ = some (.int .i64 a0_1) := (blk_cell BK211.out 1).trans rfl; have hfz14_0 := blk_frozen BK211.out 0; have hfz14_1 := blk_frozen BK211.out 1; have hcz15_0 : w12.cell? ⟨gb212, 0, none⟩ = some (.slice A1_0 l1_0.length c1_0) := (blk_cell BK212.out 0).trans rfl; have hcz15_1 : w12.cell? ⟨gb212, 1, none⟩ = some (.int .i64 a1_1) := (blk_cell BK212.out 1).trans rfl; have hfz15_0 := blk_frozen BK212.out 0; have hfz15_1 := blk_frozen BK212.out 1) | ((with_reducible refine gate_callee (f := 65) rfl ?_); refine goesL_ (some 9) rfl rfl Try.func65 (by kernel_rfl) rfl #[.slice A0_0 l0_0.length c0_0, .slice A1_0 l1_0.length c1_0] rfl (by (try simp only [List.map_toArray, List.map_cons, List.map_nil]); first | done | rfl | (simp only [List.length_drop, List.length_take]; rfl)) ?_; (with_reducible refine (laws_eqIntS.calls k _ _ l0_0 _ _ l1_0 true _ ?side1 ?side2 ?side3 ?side4 A3.out).mono ?_); (case side1 => repeat (first | exact (Kd.C_below HR0_0.out HB.out) | (with_reducible refine ca' ?_ _) | (with_reducible refine cn' ?_ _) | (with_reducible refine cd' ?_))); (case side2 => exact HC0_0.out); (case side3 => repeat (first | exact (Kd.C_below HR1_0.out HB.out) | (with_reducible refine ca' ?_ _) | (with_reducible refine cn' ?_ _) | (with_reducible refine cd' ?_))); (case side4 => exact HC1_0.out); rintro e w' ⟨rfl, ⟨nd, rfl⟩⟩; refine ⟨_, rfl, ?_⟩))
   go_ret
   exact ⟨by first | rfl | (simp [errW_none, errW_some] <;> rfl) | (simp [*, errW_none, errW_some] <;> rfl), by repeat (first | (with_reducible first | exact HB.out | apply ba' | apply bd' | apply be' | refine bs' ?_ GE211.out | refine bs' ?_ GE212.out) | exact HB.out)⟩
 ·
  replace c4 := Bool.eq_false_iff.mpr c4
  subst c4; have H1 : (some false) = some r := by rw [if_neg (show ¬ (false = true) by decide)] at H; exact H
  clear H; have H := H1; clear H1; obtain rfl := Option.some.inj H
  go_enter Try.func52, Try.ntmps52
  go_wp2_with (first | ((with_reducible refine gate_dst (N := 2) rfl ?_); refine box_event ?hg (N := 2) ?hd (cs := #[.slice A0_0 l0_0.length c0_0, .int .i64 a0_1]) (t := 69) ?hr ?_; (case hd => rfl); (case hg => rfl); (case hr => first | (go_simp; done) | (go_simp; rfl)); intro gb211 hg w16 hbox hb; have n0_ := am' (below_step (by repeat (first | (with_reducible first | exact HB.out | apply ba' | apply bd' | apply be') | exact HB.out)) hb); have n1_ := am' (hbox); have n2_ := am' ((by rw [hg]; exact (below_size (by repeat (first | (with_reducible first | exact HB.out | apply ba' | apply bd' | apply be') | exact HB.out))) : w.heap.size ≤ gb211)); have n3_ := am' ((by rw [hg]; exact (below_size (by repeat (first | (with_reducible first | exact HB.out | apply ba' | apply bd' | apply be') | exact HB.out))) : w.heap.size ≤ gb211)); clear HB; have HB := n0_; have BK211 := n1_; have GW211 := n2_; have GE211 := n3_; clear n0_ n1_ n2_ n3_; clear hb hbox hg) | ((with_reducible refine gate_dst (N := 3) rfl ?_); refine box_event ?hg (N := 3) ?hd (cs := #[.slice A1_0 l1_0.length c1_0, .int .i64 a1_1]) (t := 69) ?hr ?_; (case hd => rfl); (case hg => rfl); (case hr => first | (go_simp; done) | (go_simp; rfl)); intro gb212 hg w17 hbox hb; have n0_ := am' (blk_below (g := gb211) (o := .cells #[.slice A0_0 l0_0.length c0_0, .int .i64 a0_1] 69 (0, 0)) (by (with_reducible repeat (first | refine kn' ?_ _ | refine kd' ?_ | refine ka' ?_ _)); exact BK211.out) hb); have n1_ := am' (below_step (by repeat (first | (with_reducible first | exact HB.out | apply ba' | apply bd' | apply be' | refine bs' ?_ GE211.out) | exact HB.out)) hb); have n2_ := am' (hbox); have n3_ := am' ((by rw [hg]; exact (below_size (by repeat (first | (with_reducible first | exact HB.out | apply ba' | apply bd' | apply be' | refine bs' ?_ GE211.out) | exact HB.out))) : w.heap.size ≤ gb212)); have n4_ := am' ((by rw [hg]; exact (below_size (by repeat (first | (with_reducible first | exact HB.out | apply ba' | apply bd' | apply be' | refine bs' ?_ GE211.out) | exact HB.out))) : w.heap.size ≤ gb212)); have n5_ := am' ((by rw [hg]; exact Nat.ne_of_lt (blk_lt (g := gb211) (o := .cells #[.slice A0_0 l0_0.length c0_0, .int .i64 a0_1] 69 (0, 0)) (by (with_reducible repeat (first | refine kn' ?_ _ | refine kd' ?_ | refine ka' ?_ _)); exact BK211.out)) : gb211 ≠ gb212)); have n6_ := am' ((by rw [hg]; exact Nat.ne_of_gt (blk_lt (g := gb211) (o := .cells #[.slice A0_0 l0_0.length c0_0, .int .i64 a0_1] 69 (0, 0)) (by (with_reducible repeat (first | refine kn' ?_ _ | refine kd' ?_ | refine ka' ?_ _)); exact BK211.out)) : gb212 ≠ gb211)); clear BK211; clear HB; have BK211 := n0_; have HB := n1_; have BK212 := n2_; have GW212 := n3_; have GE212 := n4_; have NB211_212 := n5_; have NB212_211 := n6_; clear n0_ n1_ n2_ n3_ n4_ n5_ n6_; clear hb hbox hg; have hnb18 := NB211_212.out; have hnc18 := NB212_211.out; have hcz19_0 : w17.cell? ⟨gb211, 0, none⟩ = some (.slice A0_0 l0_0.length c0_0) := (blk_cell BK211.out 0).trans rfl; have hcz19_1 : w17.cell? ⟨gb211, 1, none⟩ = some (.int .i64 a0_1) := (blk_cell BK211.out 1).trans rfl; have hfz19_0 := blk_frozen BK211.out 0; have hfz19_1 := blk_frozen BK211.out 1; have hcz20_0 : w17.cell? ⟨gb212, 0, none⟩ = some (.slice A1_0 l1_0.length c1_0) := (blk_cell BK212.out 0).trans rfl; have hcz20_1 : w17.cell? ⟨gb212, 1, none⟩ = some (.int .i64 a1_1) := (blk_cell BK212.out 1).trans rfl; have hfz20_0 := blk_frozen BK212.out 0; have hfz20_1 := blk_frozen BK212.out 1) | ((with_reducible refine gate_callee (f := 65) rfl ?_); refine goesL_ (some 9) rfl rfl Try.func65 (by kernel_rfl) rfl #[.slice A0_0 l0_0.length c0_0, .slice A1_0 l1_0.length c1_0] rfl (by (try simp only [List.map_toArray, List.map_cons, List.map_nil]); first | done | rfl | (simp only [List.length_drop, List.length_take]; rfl)) ?_; (with_reducible refine (laws_eqIntS.calls k _ _ l0_0 _ _ l1_0 false _ ?side1 ?side2 ?side3 ?side4 A3.out).mono ?_); (case side1 => repeat (first | exact (Kd.C_below HR0_0.out HB.out) | (with_reducible refine ca' ?_ _) | (with_reducible refine cn' ?_ _) | (with_reducible refine cd' ?_))); (case side2 => exact HC0_0.out); (case side3 => repeat (first | exact (Kd.C_below HR1_0.out HB.out) | (with_reducible refine ca' ?_ _) | (with_reducible refine cn' ?_ _) | (with_reducible refine cd' ?_))); (case side4 => exact HC1_0.out); rintro e w' ⟨rfl, ⟨nd, rfl⟩⟩; refine ⟨_, rfl, ?_⟩))
  go_ret
  exact ⟨by first | rfl | (simp [errW_none, errW_some] <;> rfl) | (simp [*, errW_none, errW_some] <;> rfl), by repeat (first | (with_reducible first | exact HB.out | apply ba' | apply bd' | apply be' | refine bs' ?_ GE211.out | refine bs' ?_ GE212.out) | exact HB.out)⟩
end Go.Proofs.Ytpobeakggacdpaa.C9
