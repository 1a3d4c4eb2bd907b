import Derived.Test.YtamljjfhkolflaaC8zx0
import Derived.Test.YtamljjfhkolflaaC8zx1
import Derived.Test.YtamljjfhkolflaaC8zx6
import Derived.Test.YtamljjfhkolflaaC8zx7
import Derived.Test.YtamljjfhkolflaaC8zAl
namespace Go.Proofs.Ytamljjfhkolflaa.C8
open Go.RowKit Go.Proofs.YtamljjfhkolflaaW.PrintWords Go.Proofs.YtamljjfhkolflaaW.PrintLast Go.Proofs.YtamljjfhkolflaaW.PrintMore Go.Proofs.Ytamljjfhkolflaa.H
attribute [local go_sem] max2_int min2_int max_two min_two max_three min_three max_four min_four
set_option linter.unusedVariables false
set_option linter.unusedSimpArgs false
def spec_CountOnBest.f (k : Nat) (l0_0 : List Int) (a0_1 : Int) : Option (Int × Bool) := (spec_paGood.f k l0_0 a0_1).bind fun t258 => (if t258 = true then ((spec_seLeast.f k l0_0 a0_1).bind fun t259 => (if t259 < 0 then (some (0, false)) else ((spec_seOn.f k l0_0 a0_1).bind fun t260 => (some ((t260.length : Int), true))))) else (some (0, false)))
set_option maxHeartbeats 8000000 in
set_option maxRecDepth 100000 in
theorem spec_CountOnBest.calls (k : Nat) (A0_0 : Option Addr) (c0_0 : Nat) (l0_0 : List Int) (a0_1 : Int) (r1 : Int) (r2 : Bool) (w : World) (hr0_0 : Kd.C (Kd.int .i64) w A0_0 l0_0.length l0_0) (hc0_0 : l0_0.length ≤ c0_0) (h : spec_CountOnBest.f k l0_0 a0_1 = some (r1, r2)) :
  Calls Try.prog 25 #[.agg #[.slice A0_0 l0_0.length c0_0, .int .i64 a0_1]] w fun e w' => e = .returned (.tuple #[.int .i64 r1, .bool r2]) ∧ Below w.heap.size w w' := by
 have hu28 := Try.underlying28
 have HR0_0 := am' hr0_0
 have HC0_0 := am' hc0_0
 clear hr0_0 hc0_0; have HB := am' (Below.refl w.heap.size w)
 have H : ((spec_paGood.f k l0_0 a0_1).bind fun t258 => (if t258 = true then ((spec_seLeast.f k l0_0 a0_1).bind fun t259 => (if t259 < 0 then (some (0, false)) else ((spec_seOn.f k l0_0 a0_1).bind fun t260 => (some ((t260.length : Int), true))))) else (some (0, false)))) = some (r1, r2) := h
 clear h; replace H := Option.bind_eq_some_iff.mp H
 obtain ⟨t258, A20, H⟩ := H
 replace H : (if t258 = true then ((spec_seLeast.f k l0_0 a0_1).bind fun t259 => (if t259 < 0 then (some (0, false)) else ((spec_seOn.f k l0_0 a0_1).bind fun t260 => (some ((t260.length : Int), true))))) else (some (0, false))) = some (r1, r2) := H
 have A2 := am' A20
 clear A20; by_cases c3 : t258 = true
 ·
  subst c3; have H1 : ((spec_seLeast.f k l0_0 a0_1).bind fun t259 => (if t259 < 0 then (some (0, false)) else ((spec_seOn.f k l0_0 a0_1).bind fun t260 => (some ((t260.length : Int), true))))) = some (r1, r2) := by rw [if_pos rfl] at H; exact H
  clear H; have H := H1; clear H1; replace H := Option.bind_eq_some_iff.mp H
  obtain ⟨t259, A40, H⟩ := H
  replace H : (if t259 < 0 then (some (0, false)) else ((spec_seOn.f k l0_0 a0_1).bind fun t260 => (some ((t260.length : Int), true)))) = some (r1, r2) := H
  have A4 := am' A40
  clear A40; by_cases c5 : t259 < 0
  ·
   rw [if_pos c5] at H; have c5b0 : decide (t259 < 0) = true := decide_eq_true c5
   clear c5; simp only [Option.some.injEq, Prod.mk.injEq] at H
   obtain ⟨rfl, rfl⟩ := H
   go_enter Try.func25, Try.ntmps25
   go_wp2_with (first | ((with_reducible refine gate_dst (N := 1) rfl ?_); refine box_event ?hg (N := 1) ?hd (cs := #[.slice A0_0 l0_0.length c0_0, .int .i64 a0_1]) (t := 28) ?hr ?_; (case hd => rfl); (case hg => rfl); (case hr => first | (go_simp; done) | (go_simp; rfl)); intro gb257 hg w6 hbox hb; have n0_ := am' (below_step (by repeat (first | (with_reducible first | exact HB.out | apply ba' | apply bd' | apply be') | exact HB.out)) hb); have n1_ := am' (hbox); have n2_ := am' ((by rw [hg]; exact (below_size (by repeat (first | (with_reducible first | exact HB.out | apply ba' | apply bd' | apply be') | exact HB.out))) : w.heap.size ≤ gb257)); have n3_ := am' ((by rw [hg]; exact (below_size (by repeat (first | (with_reducible first | exact HB.out | apply ba' | apply bd' | apply be') | exact HB.out))) : w.heap.size ≤ gb257)); clear HB; have HB := n0_; have BK257 := n1_; have GW257 := n2_; have GE257 := n3_; clear n0_ n1_ n2_ n3_; clear hb hbox hg; have hcz7_0 : w6.cell? ⟨gb257, 0, none⟩ = some (.slice A0_0 l0_0.length c0_0) := (blk_cell BK257.out 0).trans rfl; have hcz7_1 : w6.cell? ⟨gb257, 1, none⟩ = some (.int .i64 a0_1) := (blk_cell BK257.out 1).trans rfl; have hfz7_0 := blk_frozen BK257.out 0; have hfz7_1 := blk_frozen BK257.out 1) | ((with_reducible refine gate_callee (f := 59) rfl ?_); refine goesL_ (some 5) rfl rfl Try.func59 (by kernel_rfl) rfl #[.agg #[.slice A0_0 l0_0.length c0_0, .int .i64 a0_1]] rfl (by (try simp only [List.map_toArray, List.map_cons, List.map_nil]); first | done | rfl | (simp only [List.length_drop, List.length_take]; rfl)) ?_; (with_reducible refine (spec_paGood.calls k _ _ l0_0 a0_1 true _ ?side1 ?side2 A2.out).mono ?_); (case side1 => repeat (first | exact (Kd.C_below HR0_0.out HB.out) | (with_reducible refine ca' ?_ _) | (with_reducible refine cn' ?_ _) | (with_reducible refine cd' ?_))); (case side2 => exact HC0_0.out); rintro e w8 ⟨rfl, hb⟩; refine ⟨_, rfl, ?_⟩; have n0_ := am' (blk_below (g := gb257) (o := .cells #[.slice A0_0 l0_0.length c0_0, .int .i64 a0_1] 28 (0, 0)) (by (with_reducible repeat (first | refine kn' ?_ _ | refine kd' ?_ | refine ka' ?_ _)); exact BK257.out) hb); have n1_ := am' (below_step (by repeat (first | (with_reducible first | exact HB.out | apply ba' | apply bd' | apply be' | refine bs' ?_ GE257.out) | exact HB.out)) hb); clear BK257; clear HB; have BK257 := n0_; have HB := n1_; clear n0_ n1_; (try clear hb); (try clear hb2); (try clear hk); (try clear hi); have hcz9_0 : w8.cell? ⟨gb257, 0, none⟩ = some (.slice A0_0 l0_0.length c0_0) := (blk_cell BK257.out 0).trans rfl; have hcz9_1 : w8.cell? ⟨gb257, 1, none⟩ = some (.int .i64 a0_1) := (blk_cell BK257.out 1).trans rfl; have hfz9_0 := blk_frozen BK257.out 0; have hfz9_1 := blk_frozen BK257.out 1) | (go_at_call 69; (with_reducible refine (spec_seLeast.calls k _ _ l0_0 a0_1 t259 _ ?side1 ?side2 A4.out).mono ?_); (case side1 => repeat (first | exact (Kd.C_below HR0_0.out HB.out) | (with_reducible refine ca' ?_ _) | (with_reducible refine cn' ?_ _) | (with_reducible refine cd' ?_))); (case side2 => exact HC0_0.out); rintro e w10 ⟨rfl, hb⟩; have n0_ := am' (blk_below (g := gb257) (o := .cells #[.slice A0_0 l0_0.length c0_0, .int .i64 a0_1] 28 (0, 0)) (by (with_reducible repeat (first | refine kn' ?_ _ | refine kd' ?_ | refine ka' ?_ _)); exact BK257.out) hb); have n1_ := am' (below_step (by repeat (first | (with_reducible first | exact HB.out | apply ba' | apply bd' | apply be' | refine bs' ?_ GE257.out) | exact HB.out)) hb); clear BK257; clear HB; have BK257 := n0_; have HB := n1_; clear n0_ n1_; (try clear hb); (try clear hb2); (try clear hk); (try clear hi)))
   go_ret2
   exact ⟨by first | rfl | (simp [errW_none, errW_some] <;> rfl) | (simp [*, errW_none, errW_some] <;> rfl), by repeat (first | (with_reducible first | exact HB.out | apply ba' | apply bd' | apply be' | refine bs' ?_ GE257.out) | exact HB.out)⟩
  ·
   rw [if_neg c5] at H; have c5b0 : decide (t259 < 0) = false := decide_eq_false c5
   clear c5; replace H := Option.bind_eq_some_iff.mp H
   obtain ⟨t260, A110, H⟩ := H
   replace H : (some ((t260.length : Int), true)) = some (r1, r2) := H
   have A11 := am' A110
   clear A110; simp only [Option.some.injEq, Prod.mk.injEq] at H
   obtain ⟨rfl, rfl⟩ := H
   go_enter Try.func25, Try.ntmps25
   go_wp2_with (first | ((with_reducible refine gate_dst (N := 1) rfl ?_); refine box_event ?hg (N := 1) ?hd (cs := #[.slice A0_0 l0_0.length c0_0, .int .i64 a0_1]) (t := 28) ?hr ?_; (case hd => rfl); (case hg => rfl); (case hr => first | (go_simp; done) | (go_simp; rfl)); intro gb257 hg w12 hbox hb; have n0_ := am' (below_step (by repeat (first | (with_reducible first | exact HB.out | apply ba' | apply bd' | apply be') | exact HB.out)) hb); have n1_ := am' (hbox); have n2_ := am' ((by rw [hg]; exact (below_size (by repeat (first | (with_reducible first | exact HB.out | apply ba' | apply bd' | apply be') | exact HB.out))) : w.heap.size ≤ gb257)); have n3_ := am' ((by rw [hg]; exact (below_size (by repeat (first | (with_reducible first | exact HB.out | apply ba' | apply bd' | apply be') | exact HB.out))) : w.heap.size ≤ gb257)); clear HB; have HB := n0_; have BK257 := n1_; have GW257 := n2_; have GE257 := n3_; clear n0_ n1_ n2_ n3_; clear hb hbox hg; have hcz13_0 : w12.cell? ⟨gb257, 0, none⟩ = some (.slice A0_0 l0_0.length c0_0) := (blk_cell BK257.out 0).trans rfl; have hcz13_1 : w12.cell? ⟨gb257, 1, none⟩ = some (.int .i64 a0_1) := (blk_cell BK257.out 1).trans rfl; have hfz13_0 := blk_frozen BK257.out 0; have hfz13_1 := blk_frozen BK257.out 1) | ((with_reducible refine gate_callee (f := 59) rfl ?_); refine goesL_ (some 5) rfl rfl Try.func59 (by kernel_rfl) rfl #[.agg #[.slice A0_0 l0_0.length c0_0, .int .i64 a0_1]] rfl (by (try simp only [List.map_toArray, List.map_cons, List.map_nil]); first | done | rfl | (simp only [List.length_drop, List.length_take]; rfl)) ?_; (with_reducible refine (spec_paGood.calls k _ _ l0_0 a0_1 true _ ?side1 ?side2 A2.out).mono ?_); (case side1 => repeat (first | exact (Kd.C_below HR0_0.out HB.out) | (with_reducible refine ca' ?_ _) | (with_reducible refine cn' ?_ _) | (with_reducible refine cd' ?_))); (case side2 => exact HC0_0.out); rintro e w14 ⟨rfl, hb⟩; refine ⟨_, rfl, ?_⟩; have n0_ := am' (blk_below (g := gb257) (o := .cells #[.slice A0_0 l0_0.length c0_0, .int .i64 a0_1] 28 (0, 0)) (by (with_reducible repeat (first | refine kn' ?_ _ | refine kd' ?_ | refine ka' ?_ _)); exact BK257.out) hb); have n1_ := am' (below_step (by repeat (first | (with_reducible first | exact HB.out | apply ba' | apply bd' | apply be' | refine bs' ?_ GE257.out) | exact HB.out)) hb); clear BK257; clear HB; have BK257 := n0_; have HB := n1_; clear n0_ n1_; (try clear hb); (try clear hb2); (try clear hk); (try clear hi); have hcz15_0 : w14.cell? ⟨gb257, 0, none⟩ = some (.slice A0_0 l0_0.length c0_0) := (blk_cell BK257.out 0).trans rfl; have hcz15_1 : w14.cell? ⟨gb257, 1, none⟩ = some (.int .i64 a0_1) := (blk_cell BK257.out 1).trans rfl; have hfz15_0 := blk_frozen BK257.out 0; have hfz15_1 := blk_frozen BK257.out 1) | (go_at_call 69; (with_reducible refine (spec_seLeast.calls k _ _ l0_0 a0_1 t259 _ ?side1 ?side2 A4.out).mono ?_); (case side1 => repeat (first | exact (Kd.C_below HR0_0.out HB.out) | (with_reducible refine ca' ?_ _) | (with_reducible refine cn' ?_ _) | (with_reducible refine cd' ?_))); (case side2 => exact HC0_0.out); rintro e w16 ⟨rfl, hb⟩; have n0_ := am' (blk_below (g := gb257) (o := .cells #[.slice A0_0 l0_0.length c0_0, .int .i64 a0_1] 28 (0, 0)) (by (with_reducible repeat (first | refine kn' ?_ _ | refine kd' ?_ | refine ka' ?_ _)); exact BK257.out) hb); have n1_ := am' (below_step (by repeat (first | (with_reducible first | exact HB.out | apply ba' | apply bd' | apply be' | refine bs' ?_ GE257.out) | exact HB.out)) hb); clear BK257; clear HB; have BK257 := n0_; have HB := n1_; clear n0_ n1_; (try clear hb); (try clear hb2); (try clear hk); (try clear hi); have hcz17_0 : w16.cell? ⟨gb257, 0, none⟩ = some (.slice A0_0 l0_0.length c0_0) := (blk_cell BK257.out 0).trans rfl; have hcz17_1 : w16.cell? ⟨gb257, 1, none⟩ = some (.int .i64 a0_1) := (blk_cell BK257.out 1).trans rfl; have hfz17_0 := blk_frozen BK257.out 0; have hfz17_1 := blk_frozen BK257.out 1) | ((with_reducible refine gate_callee (f := 72) rfl ?_); refine goesL_ (some 13) rfl rfl Try.func72 (by kernel_rfl) rfl #[.agg #[.slice A0_0 l0_0.length c0_0, .int .i64 a0_1]] rfl (by (try simp only [List.map_toArray, List.map_cons, List.map_nil]); first | done | rfl | (simp only [List.length_drop, List.length_take]; rfl)) ?_; (with_reducible refine (spec_seOn.calls k _ _ l0_0 a0_1 t260 _ ?side1 ?side2 A11.out).mono ?_); (case side1 => repeat (first | exact (Kd.C_below HR0_0.out HB.out) | (with_reducible refine ca' ?_ _) | (with_reducible refine cn' ?_ _) | (with_reducible refine cd' ?_))); (case side2 => exact HC0_0.out); rintro e w18 ⟨v261, rfl, ho0, hb⟩; refine ⟨_, rfl, ?_⟩; have n0_ := am' (Kd.R_lower ho0 (below_size (by repeat (first | (with_reducible first | exact HB.out | apply ba' | apply bd' | apply be' | refine bs' ?_ GE257.out) | exact HB.out)))); have n1_ := am' (blk_below (g := gb257) (o := .cells #[.slice A0_0 l0_0.length c0_0, .int .i64 a0_1] 28 (0, 0)) (by (with_reducible repeat (first | refine kn' ?_ _ | refine kd' ?_ | refine ka' ?_ _)); exact BK257.out) hb); have n2_ := am' (below_step (by repeat (first | (with_reducible first | exact HB.out | apply ba' | apply bd' | apply be' | refine bs' ?_ GE257.out) | exact HB.out)) hb); clear BK257; clear HB; have HO262 := n0_; have BK257 := n1_; have HB := n2_; clear n0_ n1_ n2_; (try clear hb); (try clear hb2); (try clear hk); (try clear hi); (try clear ho0); obtain ⟨Ao19, co19, eo19⟩ := Kd.R_slice HO262.out; subst eo19))
   go_ret2
   exact ⟨by first | rfl | (simp [errW_none, errW_some] <;> rfl) | (simp [*, errW_none, errW_some] <;> rfl), by repeat (first | (with_reducible first | exact HB.out | apply ba' | apply bd' | apply be' | refine bs' ?_ GE257.out) | exact HB.out)⟩
 ·
  replace c3 := Bool.eq_false_iff.mpr c3
  subst c3; have H1 : (some (0, false)) = some (r1, r2) := by rw [if_neg (show ¬ (false = true) by decide)] at H; exact H
  clear H; have H := H1; clear H1; simp only [Option.some.injEq, Prod.mk.injEq] at H
  obtain ⟨rfl, rfl⟩ := H
  go_enter Try.func25, Try.ntmps25
  go_wp2_with (first | ((with_reducible refine gate_dst (N := 1) rfl ?_); refine box_event ?hg (N := 1) ?hd (cs := #[.slice A0_0 l0_0.length c0_0, .int .i64 a0_1]) (t := 28) ?hr ?_; (case hd => rfl); (case hg => rfl); (case hr => first | (go_simp; done) | (go_simp; rfl)); intro gb257 hg w20 hbox hb; have n0_ := am' (below_step (by repeat (first | (with_reducible first | exact HB.out | apply ba' | apply bd' | apply be') | exact HB.out)) hb); have n1_ := am' (hbox); have n2_ := am' ((by rw [hg]; exact (below_size (by repeat (first | (with_reducible first | exact HB.out | apply ba' | apply bd' | apply be') | exact HB.out))) : w.heap.size ≤ gb257)); have n3_ := am' ((by rw [hg]; exact (below_size (by repeat (first | (with_reducible first | exact HB.out | apply ba' | apply bd' | apply be') | exact HB.out))) : w.heap.size ≤ gb257)); clear HB; have HB := n0_; have BK257 := n1_; have GW257 := n2_; have GE257 := n3_; clear n0_ n1_ n2_ n3_; clear hb hbox hg; have hcz21_0 : w20.cell? ⟨gb257, 0, none⟩ = some (.slice A0_0 l0_0.length c0_0) := (blk_cell BK257.out 0).trans rfl; have hcz21_1 : w20.cell? ⟨gb257, 1, none⟩ = some (.int .i64 a0_1) := (blk_cell BK257.out 1).trans rfl; have hfz21_0 := blk_frozen BK257.out 0; have hfz21_1 := blk_frozen BK257.out 1) | ((with_reducible refine gate_callee (f := 59) rfl ?_); refine goesL_ (some 5) rfl rfl Try.func59 (by kernel_rfl) rfl #[.agg #[.slice A0_0 l0_0.length c0_0, .int .i64 a0_1]] rfl (by (try simp only [List.map_toArray, List.map_cons, List.map_nil]); first | done | rfl | (simp only [List.length_drop, List.length_take]; rfl)) ?_; (with_reducible refine (spec_paGood.calls k _ _ l0_0 a0_1 false _ ?side1 ?side2 A2.out).mono ?_); (case side1 => repeat (first | exact (Kd.C_below HR0_0.out HB.out) | (with_reducible refine ca' ?_ _) | (with_reducible refine cn' ?_ _) | (with_reducible refine cd' ?_))); (case side2 => exact HC0_0.out); rintro e w22 ⟨rfl, hb⟩; refine ⟨_, rfl, ?_⟩; have n0_ := am' (blk_below (g := gb257) (o := .cells #[.slice A0_0 l0_0.length c0_0, .int .i64 a0_1] 28 (0, 0)) (by (with_reducible repeat (first | refine kn' ?_ _ | refine kd' ?_ | refine ka' ?_ _)); exact BK257.out) hb); have n1_ := am' (below_step (by repeat (first | (with_reducible first | exact HB.out | apply ba' | apply bd' | apply be' | refine bs' ?_ GE257.out) | exact HB.out)) hb); clear BK257; clear HB; have BK257 := n0_; have HB := n1_; clear n0_ n1_; (try clear hb); (try clear hb2); (try clear hk); (try clear hi)))
  go_ret2
  exact ⟨by first | rfl | (simp [errW_none, errW_some] <;> rfl) | (simp [*, errW_none, errW_some] <;> rfl), by repeat (first | (with_reducible first | exact HB.out | apply ba' | apply bd' | apply be' | refine bs' ?_ GE257.out) | exact HB.out)⟩
def impl_in.f (a0 : Int) (a1 : Int) (a2 : Int) : Option (Bool) := if a1 ≤ a0 then (some (decide (a0 ≤ a2))) else (some false)
set_option maxHeartbeats 8000000 in
set_option maxRecDepth 100000 in
theorem impl_in.calls (a0 : Int) (a1 : Int) (a2 : Int) (r : Bool) (w : World) (h : impl_in.f a0 a1 a2 = some r) :
  Calls Try.prog 65 #[.int .i64 a0, .int .i64 a1, .int .i64 a2] w fun e w' => e = .returned (.bool r) ∧ Drawn0 w w' := by
 have H : (if a1 ≤ a0 then (some (decide (a0 ≤ a2))) else (some false)) = some r := h
 clear h; by_cases c4 : a1 ≤ a0
 ·
  rw [if_pos c4] at H; have c4b0 : decide (a1 ≤ a0) = true := decide_eq_true c4
  clear c4; obtain rfl := Option.some.inj H
  go_enter Try.func65, Try.ntmps65
  go_wp2
  go_ret
  exact ⟨by first | rfl | (simp; done) | (simp [*]; done), by repeat (first | exact Drawn0.refl _ | apply Drawn0.step)⟩
 ·
  rw [if_neg c4] at H; have c4b0 : decide (a1 ≤ a0) = false := decide_eq_false c4
  clear c4; obtain rfl := Option.some.inj H
  go_enter Try.func65, Try.ntmps65
  go_wp2
  go_ret
  exact ⟨by first | rfl | (simp; done) | (simp [*]; done), by repeat (first | exact Drawn0.refl _ | apply Drawn0.step)⟩
def PredOn (g : Nat) (lb : Array Value) (p : Int → Bool) (xs : List Int) (w : World) : Prop :=
 ∀ x, x ∈ xs → ∀ W : World, Below w.heap.size w W → Calls Try.prog g (#[.int .i64 x] ++ lb) W fun e w' => e = .returned (.bool (p x)) ∧ Below W.heap.size W w'
set_option maxHeartbeats 2000000 in
set_option maxRecDepth 100000 in
theorem IndexFunc_any (g : Nat) (lb : Array Value) (p : Int → Bool) (eg : ∀ args w, (callFunc g args).run Try.prog w = .ok (.enter g args) w) (A0 : Option Addr) (c0 : Nat) (xs : List Int) (w : World) (hr : Kd.C (Kd.int .i64) w A0 xs.length xs) (hl : xs.length ≤ c0) (hbig : xs.length ≤ 9223372036854775807)
  (hp : PredOn g lb p xs w) :
  Calls Try.prog 129 #[.slice A0 xs.length c0, .func (.func g) #[] lb] w fun e w' => e = .returned (.int .i64 (idxF p xs)) ∧ Below w.heap.size w w' := by
 have HP := am' hp
 have HR := am' hr
 clear hp hr; go_enter Try.func129, Try.ntmps129
 go_wp2
 go_loopg [5, 8] xs.length (fun gg _ s8 wr => ∃ kk : Nat, kk ≤ xs.length ∧ xs.length - kk ≤ gg ∧ s8 = .int .i64 kk ∧ Aside0 (Below w.heap.size w wr) ∧ Aside0 (∀ j, j < kk → p (rd xs (j : Nat)) = false))
 case atStart => exact ⟨0, Nat.zero_le _, by omega, rfl, ⟨Below.refl _ w⟩, ⟨fun j hj => absurd hj (Nat.not_lt_zero _)⟩⟩
 case round =>
  obtain ⟨kk, hkk, hg, rfl, BW, AA⟩ := hrel
  by_cases hlt : kk < xs.length
  ·
   have hltz : (kk : Int) < (xs.length : Int) := by omega
   obtain ⟨ad, e0, hx0⟩ := Kd.at_int HR.out (kk : Int) (by omega) hltz
   cases e0
   have hx := (BW.out.cell (bl' w _ hx0)).trans hx0
   clear hx0; rw [Int.toNat_natCast] at hx
   have hcall := HP.out (rd xs kk) (rd_mem xs kk hlt) wr BW.out
   generalize hy : rd xs kk = y at hx hcall
   have B : Aside0 (rd xs kk = y) := ⟨hy⟩
   clear hy; cases hq : p y with
   | true =>
    rw [hq] at hcall
    go_wp2_with fail
    refine hcall.mono ?_
    rintro e w' ⟨rfl, hb'⟩
    clear hcall hx; go_wp2
    go_ret
    refine ⟨?_, below_step BW.out hb'⟩
    rw [idxF_hit p xs kk hlt (by rw [B.out]; exact hq) AA.out]
    rfl
   | false =>
    rw [hq] at hcall
    go_wp2_with fail
    refine hcall.mono ?_
    rintro e w' ⟨rfl, hb'⟩
    clear hcall hx; go_wp2
    go_roundg (xs.length - (kk + 1))
    case measure => omega
    case rel =>
     refine ⟨kk + 1, by omega, by omega, by go_num, ⟨below_step BW.out hb'⟩, ⟨fun j hj => ?_⟩⟩
     by_cases e : j = kk
     ·
      subst e; rw [B.out]; exact hq
     ·
      exact AA.out j (by omega)
  ·
   have hltz : ¬ (kk : Int) < (xs.length : Int) := by omega
   have : kk = xs.length := by omega
   subst this; go_wp2
   go_ret
   refine ⟨?_, BW.out⟩
   rw [idxF_miss p xs AA.out]
   rfl
set_option maxHeartbeats 2000000 in
set_option maxRecDepth 100000 in
theorem ContainsFunc_any (g : Nat) (lb : Array Value) (p : Int → Bool) (eg : ∀ args w, (callFunc g args).run Try.prog w = .ok (.enter g args) w) (A0 : Option Addr) (c0 : Nat) (xs : List Int) (w : World) (hr : Kd.C (Kd.int .i64) w A0 xs.length xs) (hl : xs.length ≤ c0) (hbig : xs.length ≤ 9223372036854775807)
  (hp : PredOn g lb p xs w) :
  Calls Try.prog 122 #[.slice A0 xs.length c0, .func (.func g) #[] lb] w fun e w' => e = .returned (.bool (xs.any p)) ∧ Below w.heap.size w w' := by
 have HH := am' (IndexFunc_any g lb p eg A0 c0 xs w hr hl hbig hp)
 clear hr hl hp; go_enter Try.func122, Try.ntmps122
 go_wp2_with (go_at_call 129; refine HH.out.mono ?_; rintro e w' ⟨rfl, hb⟩)
 go_ret
 refine ⟨?_, hb⟩
 rw [← idxF_any]
 rfl
theorem in_calls (x lo hi : Int) (w : World) : Calls Try.prog 65 #[.int .i64 x, .int .i64 lo, .int .i64 hi] w fun e w' => e = .returned (.bool (inB lo hi x)) ∧ Below w.heap.size w w' :=
 (impl_in.calls x lo hi (inB lo hi x) w (by unfold impl_in.f inB; by_cases h : lo ≤ x <;> simp [h])).mono fun e w' ⟨he, hd⟩ => ⟨he, hd.below⟩
theorem areIn1_calls (x lo hi : Int) (b1 b2 : Nat) (w : World) (h1 : w.cell? ⟨b1, 0, none⟩ = some (.int .i64 lo)) (h2 : w.cell? ⟨b2, 0, none⟩ = some (.int .i64 hi)) :
  Calls Try.prog 123 #[.int .i64 x, .pointer (some ⟨b1, 0, none⟩), .pointer (some ⟨b2, 0, none⟩)] w fun e w' => e = .returned (.bool (!inB lo hi x)) ∧ Below w.heap.size w w' := by
 go_enter Try.func123, Try.ntmps123
 go_wp2_with (go_at_call 65; refine (in_calls _ _ _ _).mono ?_; rintro e w' ⟨rfl, hb⟩)
 go_ret
 exact ⟨rfl, hb⟩
theorem areIn_pred (lo hi : Int) (b1 b2 : Nat) (xs : List Int) (w : World) (h1 : w.cell? ⟨b1, 0, none⟩ = some (.int .i64 lo)) (h2 : w.cell? ⟨b2, 0, none⟩ = some (.int .i64 hi)) :
  PredOn 123 #[.pointer (some ⟨b1, 0, none⟩), .pointer (some ⟨b2, 0, none⟩)] (fun x => !inB lo hi x) xs w := fun x _ W hb =>
 areIn1_calls x lo hi b1 b2 W ((hb.cell (bl' w _ h1)).trans h1) ((hb.cell (bl' w _ h2)).trans h2)
def impl_areIn.f (l0 : List Int) (a1 a2 a3 a4 : Int) : Option Bool := some (inB a3 a4 (l0.length : Int) && l0.all (inB a1 a2))
set_option maxHeartbeats 2000000 in
set_option maxRecDepth 100000 in
theorem impl_areIn.calls (A0 : Option Addr) (c0 : Nat) (l0 : List Int) (a1 a2 a3 a4 : Int) (r : Bool) (w : World) (hr0 : Kd.C (Kd.int .i64) w A0 l0.length l0) (hc0 : l0.length ≤ c0) (h : impl_areIn.f l0 a1 a2 a3 a4 = some r) :
  Calls Try.prog 103 #[.slice A0 l0.length c0, .int .i64 a1, .int .i64 a2, .int .i64 a3, .int .i64 a4] w fun e w' => e = .returned (.bool r) ∧ Below w.heap.size w w' := by
 have hbig : l0.length ≤ 9223372036854775807 := hr0.2.1
 have HC := am' (fun (w1 : World) (h1 : Below w.heap.size w w1) (b1 b2 : Nat) (e1 : w1.cell? ⟨b1, 0, none⟩ = some (.int .i64 a1)) (e2 : w1.cell? ⟨b2, 0, none⟩ = some (.int .i64 a2)) =>
  ContainsFunc_any 123 #[.pointer (some ⟨b1, 0, none⟩), .pointer (some ⟨b2, 0, none⟩)] (fun x => !inB a1 a2 x) (enters_of Try.func123 (by kernel_rfl) rfl) A0 c0 l0 w1 (Kd.C_below hr0 h1) hc0 hbig (areIn_pred a1 a2 b1 b2 l0 w1 e1 e2))
 clear hr0; cases hi : inB a3 a4 (l0.length : Int) with
 | false =>
  obtain rfl : false = r := by unfold impl_areIn.f at h; simpa [hi] using h
  clear h; go_enter Try.func103, Try.ntmps103
  go_wp2_with (go_at_call 65; refine (in_calls _ _ _ _).mono ?_; rintro e w' ⟨rfl, hb⟩)
  go_ret
  exact ⟨rfl, (after_alloc (after_alloc hb).1).1⟩
 | true =>
  obtain rfl : l0.all (inB a1 a2) = r := by unfold impl_areIn.f at h; simpa [hi] using h
  clear h; go_enter Try.func103, Try.ntmps103
  go_wp2_with (go_at_call 65; refine (in_calls _ _ _ _).mono ?_; rintro e w' ⟨rfl, hb⟩)
  have h2 := after_alloc hb
  have h1 := after_alloc h2.1
  rw [World.size_alloc] at h2
  refine (HC.out w' h1.1 _ _ ((blk_cell h1.2 0).trans rfl) ((blk_cell h2.2 0).trans rfl)).mono ?_
  rintro e w2 ⟨rfl, hb2⟩
  clear hb h2; have HB2 := am' (below_step h1.1 hb2)
  clear h1 hb2; go_wp2
  go_ret
  refine ⟨?_, HB2.out⟩
  rw [← any_not_all]
  rfl
def impl_IsParty.f (l0_0 : List Int) (a0_1 : Int) : Option (Bool) := (impl_areIn.f l0_0 1 1000 1 8).bind fun t264 => (if t264 = true then ((impl_in.f a0_1 1 3).bind fun t265 => (some t265)) else (some false))
set_option maxHeartbeats 8000000 in
set_option maxRecDepth 100000 in
theorem impl_IsParty.calls (A0_0 : Option Addr) (c0_0 : Nat) (l0_0 : List Int) (a0_1 : Int) (r : Bool) (w : World) (hr0_0 : Kd.C (Kd.int .i64) w A0_0 l0_0.length l0_0) (hc0_0 : l0_0.length ≤ c0_0) (h : impl_IsParty.f l0_0 a0_1 = some r) :
  Calls Try.prog 64 #[.agg #[.slice A0_0 l0_0.length c0_0, .int .i64 a0_1]] w fun e w' => e = .returned (.bool r) ∧ Below w.heap.size w w' := by
 have hu28 := Try.underlying28
 have HR0_0 := am' hr0_0
 have HC0_0 := am' hc0_0
 clear hr0_0 hc0_0; have HB := am' (Below.refl w.heap.size w)
 have H : ((impl_areIn.f l0_0 1 1000 1 8).bind fun t264 => (if t264 = true then ((impl_in.f a0_1 1 3).bind fun t265 => (some t265)) else (some false))) = some r := h
 clear h; replace H := Option.bind_eq_some_iff.mp H
 obtain ⟨t264, A20, H⟩ := H
 replace H : (if t264 = true then ((impl_in.f a0_1 1 3).bind fun t265 => (some t265)) else (some false)) = some r := H
 have A2 := am' A20
 clear A20; by_cases c3 : t264 = true
 ·
  subst c3; have H1 : ((impl_in.f a0_1 1 3).bind fun t265 => (some t265)) = some r := by rw [if_pos rfl] at H; exact H
  clear H; have H := H1; clear H1; replace H := Option.bind_eq_some_iff.mp H
  obtain ⟨t265, A40, H⟩ := H
  replace H : (some t265) = some r := H
  have A4 := am' A40
  clear A40; obtain rfl := Option.some.inj H
  go_enter Try.func64, Try.ntmps64
  go_wp2_with (first | ((with_reducible refine gate_dst (N := 1) rfl ?_); refine box_event ?hg (N := 1) ?hd (cs := #[.slice A0_0 l0_0.length c0_0, .int .i64 a0_1]) (t := 28) ?hr ?_; (case hd => rfl); (case hg => rfl); (case hr => first | (go_simp; done) | (go_simp; rfl)); intro gb263 hg w5 hbox hb; have n0_ := am' (below_step (by repeat (first | (with_reducible first | exact HB.out | apply ba' | apply bd' | apply be') | exact HB.out)) hb); have n1_ := am' (hbox); have n2_ := am' ((by rw [hg]; exact (below_size (by repeat (first | (with_reducible first | exact HB.out | apply ba' | apply bd' | apply be') | exact HB.out))) : w.heap.size ≤ gb263)); have n3_ := am' ((by rw [hg]; exact (below_size (by repeat (first | (with_reducible first | exact HB.out | apply ba' | apply bd' | apply be') | exact HB.out))) : w.heap.size ≤ gb263)); clear HB; have HB := n0_; have BK263 := n1_; have GW263 := n2_; have GE263 := n3_; clear n0_ n1_ n2_ n3_; clear hb hbox hg; have hcz6_0 : w5.cell? ⟨gb263, 0, none⟩ = some (.slice A0_0 l0_0.length c0_0) := (blk_cell BK263.out 0).trans rfl; have hcz6_1 : w5.cell? ⟨gb263, 1, none⟩ = some (.int .i64 a0_1) := (blk_cell BK263.out 1).trans rfl; have hfz6_0 := blk_frozen BK263.out 0; have hfz6_1 := blk_frozen BK263.out 1) | ((with_reducible refine gate_callee (f := 103) rfl ?_); refine goesL_ (some 5) rfl rfl Try.func103 (by kernel_rfl) rfl #[.slice A0_0 l0_0.length c0_0, .int .i64 1, .int .i64 1000, .int .i64 1, .int .i64 8] rfl (by (try simp only [List.map_toArray, List.map_cons, List.map_nil]); first | done | rfl | (simp only [List.length_drop, List.length_take]; rfl)) ?_; (with_reducible refine (impl_areIn.calls _ _ l0_0 1 1000 1 8 true _ ?side1 ?side2 A2.out).mono ?_); (case side1 => repeat (first | exact (Kd.C_below HR0_0.out HB.out) | (with_reducible refine ca' ?_ _) | (with_reducible refine cn' ?_ _) | (with_reducible refine cd' ?_))); (case side2 => exact HC0_0.out); rintro e w7 ⟨rfl, hb⟩; refine ⟨_, rfl, ?_⟩; have n0_ := am' (blk_below (g := gb263) (o := .cells #[.slice A0_0 l0_0.length c0_0, .int .i64 a0_1] 28 (0, 0)) (by (with_reducible repeat (first | refine kn' ?_ _ | refine kd' ?_ | refine ka' ?_ _)); exact BK263.out) hb); have n1_ := am' (below_step (by repeat (first | (with_reducible first | exact HB.out | apply ba' | apply bd' | apply be' | refine bs' ?_ GE263.out) | exact HB.out)) hb); clear BK263; clear HB; have BK263 := n0_; have HB := n1_; clear n0_ n1_; (try clear hb); (try clear hb2); (try clear hk); (try clear hi); have hcz8_0 : w7.cell? ⟨gb263, 0, none⟩ = some (.slice A0_0 l0_0.length c0_0) := (blk_cell BK263.out 0).trans rfl; have hcz8_1 : w7.cell? ⟨gb263, 1, none⟩ = some (.int .i64 a0_1) := (blk_cell BK263.out 1).trans rfl; have hfz8_0 := blk_frozen BK263.out 0; have hfz8_1 := blk_frozen BK263.out 1) | (go_at_call 65; (with_reducible refine (impl_in.calls a0_1 1 3 t265 _ A4.out).mono ?_); rintro e w' ⟨rfl, ⟨nd, rfl⟩⟩))
  go_ret
  exact ⟨by first | rfl | (simp [errW_none, errW_some] <;> rfl) | (simp [*, errW_none, errW_some] <;> rfl), by repeat (first | (with_reducible first | exact HB.out | apply ba' | apply bd' | apply be' | refine bs' ?_ GE263.out) | exact HB.out)⟩
 ·
  replace c3 := Bool.eq_false_iff.mpr c3
  subst c3; have H1 : (some false) = some r := by rw [if_neg (show ¬ (false = true) by decide)] at H; exact H
  clear H; have H := H1; clear H1; obtain rfl := Option.some.inj H
  go_enter Try.func64, Try.ntmps64
  go_wp2_with (first | ((with_reducible refine gate_dst (N := 1) rfl ?_); refine box_event ?hg (N := 1) ?hd (cs := #[.slice A0_0 l0_0.length c0_0, .int .i64 a0_1]) (t := 28) ?hr ?_; (case hd => rfl); (case hg => rfl); (case hr => first | (go_simp; done) | (go_simp; rfl)); intro gb263 hg w9 hbox hb; have n0_ := am' (below_step (by repeat (first | (with_reducible first | exact HB.out | apply ba' | apply bd' | apply be') | exact HB.out)) hb); have n1_ := am' (hbox); have n2_ := am' ((by rw [hg]; exact (below_size (by repeat (first | (with_reducible first | exact HB.out | apply ba' | apply bd' | apply be') | exact HB.out))) : w.heap.size ≤ gb263)); have n3_ := am' ((by rw [hg]; exact (below_size (by repeat (first | (with_reducible first | exact HB.out | apply ba' | apply bd' | apply be') | exact HB.out))) : w.heap.size ≤ gb263)); clear HB; have HB := n0_; have BK263 := n1_; have GW263 := n2_; have GE263 := n3_; clear n0_ n1_ n2_ n3_; clear hb hbox hg; have hcz10_0 : w9.cell? ⟨gb263, 0, none⟩ = some (.slice A0_0 l0_0.length c0_0) := (blk_cell BK263.out 0).trans rfl; have hcz10_1 : w9.cell? ⟨gb263, 1, none⟩ = some (.int .i64 a0_1) := (blk_cell BK263.out 1).trans rfl; have hfz10_0 := blk_frozen BK263.out 0; have hfz10_1 := blk_frozen BK263.out 1) | ((with_reducible refine gate_callee (f := 103) rfl ?_); refine goesL_ (some 5) rfl rfl Try.func103 (by kernel_rfl) rfl #[.slice A0_0 l0_0.length c0_0, .int .i64 1, .int .i64 1000, .int .i64 1, .int .i64 8] rfl (by (try simp only [List.map_toArray, List.map_cons, List.map_nil]); first | done | rfl | (simp only [List.length_drop, List.length_take]; rfl)) ?_; (with_reducible refine (impl_areIn.calls _ _ l0_0 1 1000 1 8 false _ ?side1 ?side2 A2.out).mono ?_); (case side1 => repeat (first | exact (Kd.C_below HR0_0.out HB.out) | (with_reducible refine ca' ?_ _) | (with_reducible refine cn' ?_ _) | (with_reducible refine cd' ?_))); (case side2 => exact HC0_0.out); rintro e w11 ⟨rfl, hb⟩; refine ⟨_, rfl, ?_⟩; have n0_ := am' (blk_below (g := gb263) (o := .cells #[.slice A0_0 l0_0.length c0_0, .int .i64 a0_1] 28 (0, 0)) (by (with_reducible repeat (first | refine kn' ?_ _ | refine kd' ?_ | refine ka' ?_ _)); exact BK263.out) hb); have n1_ := am' (below_step (by repeat (first | (with_reducible first | exact HB.out | apply ba' | apply bd' | apply be' | refine bs' ?_ GE263.out) | exact HB.out)) hb); clear BK263; clear HB; have BK263 := n0_; have HB := n1_; clear n0_ n1_; (try clear hb); (try clear hb2); (try clear hk); (try clear hi)))
  go_ret
  exact ⟨by first | rfl | (simp [errW_none, errW_some] <;> rfl) | (simp [*, errW_none, errW_some] <;> rfl), by repeat (first | (with_reducible first | exact HB.out | apply ba' | apply bd' | apply be' | refine bs' ?_ GE263.out) | exact HB.out)⟩
def impl_bit.f (a0 : Bool) : Option (Int) := if a0 = true then (some 1) else (some 0)
set_option maxHeartbeats 8000000 in
set_option maxRecDepth 100000 in
theorem impl_bit.calls (a0 : Bool) (r : Int) (w : World) (h : impl_bit.f a0 = some r) :
  Calls Try.prog 68 #[.bool a0] w fun e w' => e = .returned (.int .i64 r) ∧ Drawn0 w w' := by
 have H : (if a0 = true then (some 1) else (some 0)) = some r := h
 clear h; by_cases c2 : a0 = true
 ·
  subst c2; have H1 : (some 1) = some r := by rw [if_pos rfl] at H; exact H
  clear H; have H := H1; clear H1; obtain rfl := Option.some.inj H
  go_enter Try.func68, Try.ntmps68
  go_wp2
  go_ret
  exact ⟨by first | rfl | (simp; done) | (simp [*]; done), by repeat (first | exact Drawn0.refl _ | apply Drawn0.step)⟩
 ·
  replace c2 := Bool.eq_false_iff.mpr c2
  subst c2; have H1 : (some 0) = some r := by rw [if_neg (show ¬ (false = true) by decide)] at H; exact H
  clear H; have H := H1; clear H1; obtain rfl := Option.some.inj H
  go_enter Try.func68, Try.ntmps68
  go_wp2
  go_ret
  exact ⟨by first | rfl | (simp; done) | (simp [*]; done), by repeat (first | exact Drawn0.refl _ | apply Drawn0.step)⟩
def bits_Mul64.f (a0 : Int) (a1 : Int) : Option (Int × Int) := some (IntKind.u64.wrap ((IntKind.u64.wrap ((IntKind.u64.wrap ((a0 / 4294967296) * (a1 / 4294967296))) + ((IntKind.u64.wrap ((IntKind.u64.wrap ((a0 / 4294967296) * (Go.bits .and .u64 a1 4294967295))) + ((IntKind.u64.wrap ((Go.bits .and .u64 a0 4294967295) * (Go.bits .and .u64 a1 4294967295))) / 4294967296))) / 4294967296))) + ((IntKind.u64.wrap ((Go.bits .and .u64 (IntKind.u64.wrap ((IntKind.u64.wrap ((a0 / 4294967296) * (Go.bits .and .u64 a1 4294967295))) + ((IntKind.u64.wrap ((Go.bits .and .u64 a0 4294967295) * (Go.bits .and .u64 a1 4294967295))) / 4294967296))) 4294967295) + (IntKind.u64.wrap ((Go.bits .and .u64 a0 4294967295) * (a1 / 4294967296))))) / 4294967296)), IntKind.u64.wrap (a0 * a1))
set_option maxHeartbeats 8000000 in
set_option maxRecDepth 100000 in
theorem bits_Mul64.calls (a0 : Int) (a1 : Int) (r1 : Int) (r2 : Int) (w : World) (h : bits_Mul64.f a0 a1 = some (r1, r2)) :
  Calls Try.prog 131 #[.int .u64 a0, .int .u64 a1] w fun e w' => e = .returned (.tuple #[.int .u64 r1, .int .u64 r2]) ∧ Drawn0 w w' := by
 have H : (some (IntKind.u64.wrap ((IntKind.u64.wrap ((IntKind.u64.wrap ((a0 / 4294967296) * (a1 / 4294967296))) + ((IntKind.u64.wrap ((IntKind.u64.wrap ((a0 / 4294967296) * (Go.bits .and .u64 a1 4294967295))) + ((IntKind.u64.wrap ((Go.bits .and .u64 a0 4294967295) * (Go.bits .and .u64 a1 4294967295))) / 4294967296))) / 4294967296))) + ((IntKind.u64.wrap ((Go.bits .and .u64 (IntKind.u64.wrap ((IntKind.u64.wrap ((a0 / 4294967296) * (Go.bits .and .u64 a1 4294967295))) + ((IntKind.u64.wrap ((Go.bits .and .u64 a0 4294967295) * (Go.bits .and .u64 a1 4294967295))) / 4294967296))) 4294967295) + (IntKind.u64.wrap ((Go.bits .and .u64 a0 4294967295) * (a1 / 4294967296))))) / 4294967296)), IntKind.u64.wrap (a0 * a1))) = some (r1, r2) := h
 clear h; simp only [Option.some.injEq, Prod.mk.injEq] at H
 obtain ⟨rfl, rfl⟩ := H
 go_enter Try.func131, Try.ntmps131
 go_wp2
 go_ret2
 exact ⟨by first | rfl | (simp; done) | (simp [*]; done), by repeat (first | exact Drawn0.refl _ | apply Drawn0.step)⟩
def bits_Mul.f (a0 : Int) (a1 : Int) : Option (Int × Int) := (bits_Mul64.f a0 a1).bind fun bt266 => (some (bt266.1, bt266.2))
set_option maxHeartbeats 8000000 in
set_option maxRecDepth 100000 in
theorem bits_Mul.calls (a0 : Int) (a1 : Int) (r1 : Int) (r2 : Int) (w : World) (h : bits_Mul.f a0 a1 = some (r1, r2)) :
  Calls Try.prog 126 #[.int .u64 a0, .int .u64 a1] w fun e w' => e = .returned (.tuple #[.int .u64 r1, .int .u64 r2]) ∧ Drawn0 w w' := by
 have H : ((bits_Mul64.f a0 a1).bind fun bt266 => (some (bt266.1, bt266.2))) = some (r1, r2) := h
 clear h; replace H := Option.bind_eq_some_iff.mp H
 obtain ⟨⟨t266, t267⟩, A30, H⟩ := H
 replace H : (some (t266, t267)) = some (r1, r2) := H
 have A3 := am' A30
 clear A30; simp only [Option.some.injEq, Prod.mk.injEq] at H
 obtain ⟨rfl, rfl⟩ := H
 go_enter Try.func126, Try.ntmps126
 go_wp2_with (first | ((with_reducible refine gate_callee (f := 131) rfl ?_); refine goesL_ (some 25) rfl rfl Try.func131 (by kernel_rfl) rfl #[.int .u64 a0, .int .u64 a1] rfl (by (try simp only [List.map_toArray, List.map_cons, List.map_nil]); first | done | rfl | (simp only [List.length_drop, List.length_take]; rfl)) ?_; (with_reducible refine (bits_Mul64.calls a0 a1 t266 t267 _ A3.out).mono ?_); rintro e w' ⟨rfl, ⟨nd, rfl⟩⟩; refine ⟨_, rfl, ?_⟩))
 go_ret2
 exact ⟨by first | rfl | (simp; done) | (simp [*]; done), by repeat (first | exact Drawn0.refl _ | apply Drawn0.step)⟩
set_option maxRecDepth 100000 in
theorem mulOneI (m : Nat) (h : m ≤ 1024) : bits_Mul.f 1 (m : Int) = some (0, (m : Int)) := by
 have e : ((List.range 1025).all fun m : Nat => decide (bits_Mul.f 1 (m : Int) = some (0, (m : Int)))) = true := by decide +kernel
 exact of_decide_eq_true (List.all_eq_true.1 e m (by rw [List.mem_range]; omega))
theorem splice_repI (n m : Nat) (v z : Value) (q : Nat) (hq : n + q ≤ m) : splice (List.replicate n v ++ List.replicate (m - n) z) n (List.replicate q v) = List.replicate (n + q) v ++ List.replicate (m - (n + q)) z := by
 unfold splice
 have e1 : (List.replicate n v ++ List.replicate (m - n) z).take n = List.replicate n v := by simp
 have e2 : (List.replicate n v ++ List.replicate (m - n) z).drop (n + (List.replicate q v).length) = List.replicate (m - (n + q)) z := by
  rw [List.length_replicate, List.drop_append, List.length_replicate, List.drop_replicate, List.drop_replicate]
  have a1 : n - (n + q) = 0 := by omega
  have a2 : m - n - (n + q - n) = m - (n + q) := by omega
  rw [a1, a2]
  rfl
 rw [e1, e2, ← List.append_assoc, List.replicate_append_replicate]
theorem made_repI (z : Value) (m : Nat) : madeCells #[z] m = (List.replicate m z).toArray := by
 apply Array.ext
 ·
  simp [madeCells]
 ·
  intro i h1 h2; simp [madeCells, Nat.mod_one]
theorem rep_oneI (n : Nat) (b : Int) : ∀ u ∈ List.replicate n (Value.int .i64 b), u.oneCell' = true := fun u hu => by rw [List.eq_of_mem_replicate hu]; rfl
theorem rep_cellsI {w w1 : World} {ad : Addr} {v : Value} (hx : w.cell? (ad.add 0) = some v) (m : Nat) (hb : Below w.heap.size w w1) (o : Obj) : ∀ j u, (List.replicate (min 1 m) v)[j]? = some u → (w1.alloc o).cell? (ad.add j) = some u := by
 intro j u hu; have hb2 : Below w.heap.size w (w1.alloc o) := ba' hb o
 have hj : j < min 1 m := by have := (List.getElem?_eq_some_iff.1 hu).1; simpa using this
 obtain rfl : j = 0 := by omega
 rw [List.getElem?_replicate, if_pos hj] at hu
 cases hu
 exact (hb2.cell (bl' w _ hx)).trans hx
theorem rep_firstI {w : World} {g m t : Nat} {v z : Value} (h : w.heap[g]? = some (.cells (splice (List.replicate m z) 0 (List.replicate (min 1 m) v)).toArray t (0, 0))) : w.heap[g]? = some (.cells (List.replicate (min 1 m) v ++ List.replicate (m - min 1 m) z).toArray t (0, 0)) := by
 have := splice_repI 0 m v z (min 1 m) (by omega)
 simp only [List.replicate_zero, List.nil_append, Nat.sub_zero, Nat.zero_add] at this
 rwa [this] at h
theorem rep_nextI {w : World} {g m n t : Nat} {v z : Value} (h : w.heap[g]? = some (.cells (splice (List.replicate n v ++ List.replicate (m - n) z) n (List.replicate (min n (m - n)) v)).toArray t (0, 0))) (hn : n ≤ m := by omega) : w.heap[g]? = some (.cells (List.replicate (n + min n (m - n)) v ++ List.replicate (m - (n + min n (m - n))) z).toArray t (0, 0)) := by
 rwa [splice_repI n m v z _ (by omega)] at h
theorem rep_selfI {w : World} {g m n t : Nat} {v z : Value} (h : w.heap[g]? = some (.cells (List.replicate n v ++ List.replicate (m - n) z).toArray t (0, 0))) (hn : n ≤ m) : ∀ j u, (List.replicate (min n (m - n)) v)[j]? = some u → w.cell? ((⟨g, 0, none⟩ : Addr).add j) = some u := by
 intro j u hu; have hj : j < min n (m - n) := by have := (List.getElem?_eq_some_iff.1 hu).1; simpa using this
 rw [List.getElem?_replicate, if_pos hj] at hu
 cases hu
 have ha : (⟨g, 0, none⟩ : Addr).add j = ⟨g, j, none⟩ := by unfold Addr.add; split <;> simp_all
 rw [ha, blk_cell h j, List.getElem?_toArray, List.getElem?_append_left (by simp; omega), List.getElem?_replicate, if_pos (by omega)]
theorem rep_rowI {w : World} {base m : Nat} {v : Int} (hm : m ≤ 1024) (h : w.heap[base]? = some (.cells (List.replicate m (Value.int .i64 v) ++ List.replicate (m - m) (Value.int .i64 0)).toArray 3 (0, 0))) : Kd.R (Kd.int .i64) 3 w base (fun _ => True) (.slice (some ⟨base, 0, none⟩) m m) (List.replicate m v) := by
 refine Kd.R_of_own ?_ (fun _ _ => trivial)
 refine ⟨by simp [encs], .inr ⟨base, m, _, by simp, Nat.le_refl _, h, by simp, by unfold maxLen; omega, by simp, ?_⟩⟩
 simp [encs]
set_option maxHeartbeats 4000000 in
set_option maxRecDepth 100000 in
theorem repeat_callsI (A0 : Option Addr) (c0 : Nat) (v : Int) (m : Nat) (hm : m ≤ 1024) (w : World) (hr0 : Kd.C (Kd.int .i64) w A0 1 [v]) :
  Calls Try.prog 111 #[.slice A0 1 c0, .int .i64 (m : Int)] w fun e w' => ∃ v0_ : Value, e = .returned (v0_) ∧ Kd.R (Kd.int .i64) 3 w' w.heap.size (fun _ => True) v0_ (List.replicate m v) ∧ Below w.heap.size w w' := by
 obtain ⟨ad, rfl, hx0⟩ := Kd.at_int hr0 0 (by omega) (by omega)
 have hx : w.cell? (ad.add 0) = some (.int .i64 v) := by simpa [rd] using hx0
 have hinfo : (Try.prog.info? 3).map (fun i => (i.zero, i.size, i.bytes)) = some (some (.int .i64 0), 1, 8) := by kernel_rfl
 have hsz1 : (Try.prog.info? 3).map (·.size) = some 1 := by kernel_rfl
 have hmul := mulOneI m hm
 have hmk := fun W : World => run_make_row' (P := Try.prog) 22 3 (.int .i64 0) 8 Try.underlying22 hinfo rfl .i64 .i64 m (by omega) (by omega) W
 rw [made_repI (.int .i64 0) m] at hmk
 have HX := am' hx
 have HI := am' hsz1
 have HM := am' hmul
 clear hr0 hx0 hx hinfo hsz1 hmul; have hm0 : (0 : Int) ≤ (m : Int) := by omega
 have hm8 : (m : Int) ≤ 1024 := by omega
 go_enter Try.func111, Try.ntmps111
 go_wp2_with (first | (go_at_call 126; refine (bits_Mul.calls 1 m 0 m _ HM.out).mono ?_; rintro e w' ⟨rfl, ⟨nd, rfl⟩⟩) | ((with_reducible refine gate_builtin (b := .copy) (xs := #[.tmp 31, .tmp 32]) rfl ?_); refine wpList_copy_splice rfl (.tmp 31) (.tmp 32) 22 22 rfl 3 Try.underlying22 HI.out (some ⟨w.heap.size, 0, none⟩) (some ad) m m 1 c0 rfl rfl w.heap.size 0 (List.replicate m (.int .i64 0)) 3 ?hg1 (List.replicate (min 1 m) (.int .i64 v)) ?hn1 ?hp1 ?hf1 ?ho1 w.heap.size w ?hb1 (Nat.le_refl _) ?_; (case hg1 => exact heap_alloc_new (w.drewN nd) _); (case hn1 => simp [Nat.min_def]); (case hp1 => exact fun hp => ⟨rfl, ad, rfl, rep_cellsI HX.out m (bd' (Below.refl _ _) nd) _⟩); (case hf1 => simp; omega); (case ho1 => exact rep_oneI _ _); (case hb1 => exact ba' (bd' (Below.refl _ _) nd) _); intro w1 hc1 hb1; have HC1 := am' (rep_firstI hc1.out); have HB1 := am' hb1; clear hc1 hb1))
 go_loopg [8] m (fun gg s8 wr => ∃ n : Nat, s8 = .int .i64 (n : Int) ∧ min 1 m ≤ n ∧ n ≤ m ∧ m - n ≤ gg ∧ Aside0 (wr.heap[w.heap.size]? = some (.cells (List.replicate n (Value.int .i64 v) ++ List.replicate (m - n) (Value.int .i64 0)).toArray 3 (0, 0))) ∧ Aside0 (Below w.heap.size w wr))
 case atStart => exact ⟨min 1 m, by simp, Nat.le_refl _, Nat.min_le_right _ _, by omega, HC1, HB1⟩
 case round =>
  obtain ⟨n, rfl, h1n, hnm, hng, HC, HB⟩ := hrel
  clear HC1 HB1; by_cases hlt : n < m
  ·
   have d0 : decide ((n : Int) < (m : Int)) = true := by simp; omega
   have q0 : (0 ≤ (n : Int)) = True := by simp
   have q1 : ((n : Int) ≤ (m : Int)) = True := by simp; omega
   go_wp2
   go_region_law (refine step_copy_splice rfl (.tmp 41) (.tmp 44) 22 22 rfl 3 Try.underlying22 HI.out (some ⟨w.heap.size, n, none⟩) (some ⟨w.heap.size, 0, none⟩) (m - n) (m - n) n m ?hd ?hs w.heap.size n (List.replicate n (Value.int .i64 v) ++ List.replicate (m - n) (Value.int .i64 0)) 3 ?hg1 (List.replicate (min n (m - n)) (Value.int .i64 v)) ?hn1 ?hp1 ?hf1 (rep_oneI _ _) w.heap.size w ?hb1 (Nat.le_refl _) ?_; (case hd => go_simp; omega); (case hs => go_simp); (case hg1 => exact HC.out); (case hn1 => simp [Nat.min_def]); (case hp1 => exact fun hp => ⟨rfl, _, rfl, rep_selfI HC.out hnm⟩); (case hf1 => simp; omega); (case hb1 => exact bd' HB.out 1); intro w1 hc1 hb1; have HC1 := am' (rep_nextI hc1.out); have HB1 := am' hb1; clear hc1 hb1)
   go_wp2
   go_roundg (m - (n + min n (m - n)))
   case measure => omega
   case rel => exact ⟨n + min n (m - n), by (show Value.int _ _ = Value.int _ _); congr 1; exact (i64_w _).trans ((wr_id (a := (n : Int) + (min n (m - n) : Nat)) (by omega) (by omega)).trans (Int.natCast_add _ _).symm), by omega, by omega, by omega, HC1, HB1⟩
  ·
   have d0 : decide ((n : Int) < (m : Int)) = false := by simp; omega
   go_wp2
   go_ret
   obtain rfl : n = m := by omega
   refine ⟨_, rfl, ?_, HB.out⟩
   exact rep_rowI hm HC.out
end Go.Proofs.Ytamljjfhkolflaa.C8
