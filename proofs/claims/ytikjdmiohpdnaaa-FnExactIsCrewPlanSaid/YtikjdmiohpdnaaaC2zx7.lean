import Derived.Test.YtikjdmiohpdnaaaC2zx0
import Derived.Test.YtikjdmiohpdnaaaC2zx6
import Derived.Test.YtikjdmiohpdnaaaC2zAl
namespace Go.Proofs.Ytikjdmiohpdnaaa.C2
open Go.RowKit Go.Proofs.YtikjdmiohpdnaaaW.PrintWords Go.Proofs.YtikjdmiohpdnaaaW.PrintLast Go.Proofs.YtikjdmiohpdnaaaW.PrintMore Go.Proofs.Ytikjdmiohpdnaaa.H
attribute [local go_sem] max2_int min2_int max_two min_two max_three min_three max_four min_four
set_option linter.unusedVariables false
set_option linter.unusedSimpArgs false
def impl_Crew_isRide.f (k : Nat) (l0_0 : List Int) (l0_1 : List Bool) (a0_2 : Int) (l1_0 : List Bool) (a1_1 : Bool) (l2 : List Int) : Option (Bool) := (impl_Crew_isGroup.f k l0_0 l0_1 a0_2 l2).bind fun t228 => (if t228 = true then ((impl_State_are.f l1_0 a1_1 l2 a1_1).bind fun t229 => (if t229 = true then ((impl_Crew_carries.f k l0_0 l0_1 a0_2 l2).bind fun t230 => (some t230)) else (some false))) else (some false))
set_option maxHeartbeats 8000000 in
set_option maxRecDepth 100000 in
theorem impl_Crew_isRide.calls (k : Nat) (A0_0 : Option Addr) (c0_0 : Nat) (l0_0 : List Int) (A0_1 : Option Addr) (c0_1 : Nat) (l0_1 : List Bool) (a0_2 : Int) (A1_0 : Option Addr) (c1_0 : Nat) (l1_0 : List Bool) (a1_1 : Bool) (A2 : Option Addr) (c2 : Nat) (l2 : List Int) (r : Bool) (w : World) (hr0_0 : Kd.C (Kd.int .i64) w A0_0 l0_0.length l0_0) (hc0_0 : l0_0.length ≤ c0_0) (hr0_1 : Kd.C Kd.bool w A0_1 l0_1.length l0_1) (hc0_1 : l0_1.length ≤ c0_1) (hr1_0 : Kd.C Kd.bool w A1_0 l1_0.length l1_0) (hc1_0 : l1_0.length ≤ c1_0) (hr2 : Kd.C (Kd.int .i64) w A2 l2.length l2) (hc2 : l2.length ≤ c2) (h : impl_Crew_isRide.f k l0_0 l0_1 a0_2 l1_0 a1_1 l2 = some r) :
  Calls Try.prog 62 #[.agg #[.slice A0_0 l0_0.length c0_0, .slice A0_1 l0_1.length c0_1, .int .i64 a0_2], .agg #[.slice A1_0 l1_0.length c1_0, .bool a1_1], .slice A2 l2.length c2] w fun e w' => e = .returned (.bool r) ∧ Below w.heap.size w w' := by
 have hu29 := Try.underlying29
 have hu38 := Try.underlying38
 have HR0_0 := am' hr0_0
 have HC0_0 := am' hc0_0
 clear hr0_0 hc0_0; have HR0_1 := am' hr0_1
 have HC0_1 := am' hc0_1
 clear hr0_1 hc0_1; have HR1_0 := am' hr1_0
 have HC1_0 := am' hc1_0
 clear hr1_0 hc1_0; have HR2 := am' hr2
 have HC2 := am' hc2
 clear hr2 hc2; have HB := am' (Below.refl w.heap.size w)
 have H : ((impl_Crew_isGroup.f k l0_0 l0_1 a0_2 l2).bind fun t228 => (if t228 = true then ((impl_State_are.f l1_0 a1_1 l2 a1_1).bind fun t229 => (if t229 = true then ((impl_Crew_carries.f k l0_0 l0_1 a0_2 l2).bind fun t230 => (some t230)) else (some false))) else (some false))) = some r := h
 clear h; replace H := Option.bind_eq_some_iff.mp H
 obtain ⟨t228, A40, H⟩ := H
 replace H : (if t228 = true then ((impl_State_are.f l1_0 a1_1 l2 a1_1).bind fun t229 => (if t229 = true then ((impl_Crew_carries.f k l0_0 l0_1 a0_2 l2).bind fun t230 => (some t230)) else (some false))) else (some false)) = some r := H
 have A4 := am' A40
 clear A40; by_cases c5 : t228 = true
 ·
  subst c5; have H1 : ((impl_State_are.f l1_0 a1_1 l2 a1_1).bind fun t229 => (if t229 = true then ((impl_Crew_carries.f k l0_0 l0_1 a0_2 l2).bind fun t230 => (some t230)) else (some false))) = some r := by rw [if_pos rfl] at H; exact H
  clear H; have H := H1; clear H1; replace H := Option.bind_eq_some_iff.mp H
  obtain ⟨t229, A60, H⟩ := H
  replace H : (if t229 = true then ((impl_Crew_carries.f k l0_0 l0_1 a0_2 l2).bind fun t230 => (some t230)) else (some false)) = some r := H
  have A6 := am' A60
  clear A60; by_cases c7 : t229 = true
  ·
   subst c7; have H1 : ((impl_Crew_carries.f k l0_0 l0_1 a0_2 l2).bind fun t230 => (some t230)) = some r := by rw [if_pos rfl] at H; exact H
   clear H; have H := H1; clear H1; replace H := Option.bind_eq_some_iff.mp H
   obtain ⟨t230, A80, H⟩ := H
   replace H : (some t230) = some r := H
   have A8 := am' A80
   clear A80; obtain rfl := Option.some.inj H
   go_enter Try.func62, Try.ntmps62
   go_wp2_with (first | ((with_reducible refine gate_dst (N := 3) rfl ?_); refine box_event ?hg (N := 3) ?hd (cs := #[.slice A0_0 l0_0.length c0_0, .slice A0_1 l0_1.length c0_1, .int .i64 a0_2]) (t := 29) ?hr ?_; (case hd => rfl); (case hg => rfl); (case hr => first | (go_simp; done) | (go_simp; rfl)); intro gb226 hg w9 hbox hb; have n0_ := am' (below_step (by repeat (first | (with_reducible first | exact HB.out | apply ba' | apply bd' | apply be') | exact HB.out)) hb); have n1_ := am' (hbox); have n2_ := am' ((by rw [hg]; exact (below_size (by repeat (first | (with_reducible first | exact HB.out | apply ba' | apply bd' | apply be') | exact HB.out))) : w.heap.size ≤ gb226)); have n3_ := am' ((by rw [hg]; exact (below_size (by repeat (first | (with_reducible first | exact HB.out | apply ba' | apply bd' | apply be') | exact HB.out))) : w.heap.size ≤ gb226)); clear HB; have HB := n0_; have BK226 := n1_; have GW226 := n2_; have GE226 := n3_; clear n0_ n1_ n2_ n3_; clear hb hbox hg) | ((with_reducible refine gate_dst (N := 4) rfl ?_); refine box_event ?hg (N := 4) ?hd (cs := #[.slice A1_0 l1_0.length c1_0, .bool a1_1]) (t := 38) ?hr ?_; (case hd => rfl); (case hg => rfl); (case hr => first | (go_simp; done) | (go_simp; rfl)); intro gb227 hg w10 hbox hb; have n0_ := am' (blk_below (g := gb226) (o := .cells #[.slice A0_0 l0_0.length c0_0, .slice A0_1 l0_1.length c0_1, .int .i64 a0_2] 29 (0, 0)) (by (with_reducible repeat (first | refine kn' ?_ _ | refine kd' ?_ | refine ka' ?_ _)); exact BK226.out) hb); have n1_ := am' (below_step (by repeat (first | (with_reducible first | exact HB.out | apply ba' | apply bd' | apply be' | refine bs' ?_ GE226.out) | exact HB.out)) hb); have n2_ := am' (hbox); have n3_ := am' ((by rw [hg]; exact (below_size (by repeat (first | (with_reducible first | exact HB.out | apply ba' | apply bd' | apply be' | refine bs' ?_ GE226.out) | exact HB.out))) : w.heap.size ≤ gb227)); have n4_ := am' ((by rw [hg]; exact (below_size (by repeat (first | (with_reducible first | exact HB.out | apply ba' | apply bd' | apply be' | refine bs' ?_ GE226.out) | exact HB.out))) : w.heap.size ≤ gb227)); have n5_ := am' ((by rw [hg]; exact Nat.ne_of_lt (blk_lt (g := gb226) (o := .cells #[.slice A0_0 l0_0.length c0_0, .slice A0_1 l0_1.length c0_1, .int .i64 a0_2] 29 (0, 0)) (by (with_reducible repeat (first | refine kn' ?_ _ | refine kd' ?_ | refine ka' ?_ _)); exact BK226.out)) : gb226 ≠ gb227)); have n6_ := am' ((by rw [hg]; exact Nat.ne_of_gt (blk_lt (g := gb226) (o := .cells #[.slice A0_0 l0_0.length c0_0, .slice A0_1 l0_1.length c0_1, .int .i64 a0_2] 29 (0, 0)) (by (with_reducible repeat (first | refine kn' ?_ _ | refine kd' ?_ | refine ka' ?_ _)); exact BK226.out)) : gb227 ≠ gb226)); clear BK226; clear HB; have BK226 := n0_; have HB := n1_; have BK227 := n2_; have GW227 := n3_; have GE227 := n4_; have NB226_227 := n5_; have NB227_226 := n6_; clear n0_ n1_ n2_ n3_ n4_ n5_ n6_; clear hb hbox hg; have hnb11 := NB226_227.out; have hnc11 := NB227_226.out; have hcz12_0 : w10.cell? ⟨gb226, 0, none⟩ = some (.slice A0_0 l0_0.length c0_0) := (blk_cell BK226.out 0).trans rfl; have hcz12_1 : w10.cell? ⟨gb226, 1, none⟩ = some (.slice A0_1 l0_1.length c0_1) := (blk_cell BK226.out 1).trans rfl; have hcz12_2 : w10.cell? ⟨gb226, 2, none⟩ = some (.int .i64 a0_2) := (blk_cell BK226.out 2).trans rfl; have hfz12_0 := blk_frozen BK226.out 0; have hfz12_1 := blk_frozen BK226.out 1; have hfz12_2 := blk_frozen BK226.out 2) | ((with_reducible refine gate_callee (f := 55) rfl ?_); refine goesL_ (some 9) rfl rfl Try.func55 (by kernel_rfl) rfl #[.agg #[.slice A0_0 l0_0.length c0_0, .slice A0_1 l0_1.length c0_1, .int .i64 a0_2], .slice A2 l2.length c2] rfl (by (try simp only [List.map_toArray, List.map_cons, List.map_nil]); first | done | rfl | (simp only [List.length_drop, List.length_take]; rfl)) ?_; (with_reducible refine (impl_Crew_isGroup.calls k _ _ l0_0 _ _ l0_1 a0_2 _ _ l2 true _ ?side1 ?side2 ?side3 ?side4 ?side5 ?side6 A4.out).mono ?_); (case side1 => repeat (first | exact (Kd.C_below HR0_0.out HB.out) | (with_reducible refine ca' ?_ _) | (with_reducible refine cn' ?_ _) | (with_reducible refine cd' ?_))); (case side2 => exact HC0_0.out); (case side3 => repeat (first | exact (Kd.C_below HR0_1.out HB.out) | (with_reducible refine ca' ?_ _) | (with_reducible refine cn' ?_ _) | (with_reducible refine cd' ?_))); (case side4 => exact HC0_1.out); (case side5 => repeat (first | exact (Kd.C_below HR2.out HB.out) | (with_reducible refine ca' ?_ _) | (with_reducible refine cn' ?_ _) | (with_reducible refine cd' ?_))); (case side6 => exact HC2.out); rintro e w13 ⟨rfl, hb⟩; refine ⟨_, rfl, ?_⟩; have n0_ := am' (blk_below (g := gb226) (o := .cells #[.slice A0_0 l0_0.length c0_0, .slice A0_1 l0_1.length c0_1, .int .i64 a0_2] 29 (0, 0)) (by (with_reducible repeat (first | refine kn' ?_ _ | refine kd' ?_ | refine ka' ?_ _)); exact BK226.out) hb); have n1_ := am' (blk_below (g := gb227) (o := .cells #[.slice A1_0 l1_0.length c1_0, .bool a1_1] 38 (0, 0)) (by (with_reducible repeat (first | refine kn' ?_ _ | refine kd' ?_ | refine ka' ?_ _)); exact BK227.out) hb); have n2_ := am' (below_step (by repeat (first | (with_reducible first | exact HB.out | apply ba' | apply bd' | apply be' | refine bs' ?_ GE226.out | refine bs' ?_ GE227.out) | exact HB.out)) hb); clear BK226; clear BK227; clear HB; have BK226 := n0_; have BK227 := n1_; have HB := n2_; clear n0_ n1_ n2_; (try clear hb); (try clear hb2); (try clear hk); (try clear hi); have hcz14_0 : w13.cell? ⟨gb227, 0, none⟩ = some (.slice A1_0 l1_0.length c1_0) := (blk_cell BK227.out 0).trans rfl; have hcz14_1 : w13.cell? ⟨gb227, 1, none⟩ = some (.bool a1_1) := (blk_cell BK227.out 1).trans rfl; have hfz14_0 := blk_frozen BK227.out 0; have hfz14_1 := blk_frozen BK227.out 1) | (go_at_call 94; (with_reducible refine (impl_State_are.calls _ _ l1_0 a1_1 _ _ l2 a1_1 true _ ?side1 ?side2 ?side3 ?side4 A6.out).mono ?_); (case side1 => repeat (first | exact (Kd.C_below HR1_0.out HB.out) | (with_reducible refine ca' ?_ _) | (with_reducible refine cn' ?_ _) | (with_reducible refine cd' ?_))); (case side2 => exact HC1_0.out); (case side3 => repeat (first | exact (Kd.C_below HR2.out HB.out) | (with_reducible refine ca' ?_ _) | (with_reducible refine cn' ?_ _) | (with_reducible refine cd' ?_))); (case side4 => exact HC2.out); rintro e w15 ⟨rfl, hb⟩; have n0_ := am' (blk_below (g := gb226) (o := .cells #[.slice A0_0 l0_0.length c0_0, .slice A0_1 l0_1.length c0_1, .int .i64 a0_2] 29 (0, 0)) (by (with_reducible repeat (first | refine kn' ?_ _ | refine kd' ?_ | refine ka' ?_ _)); exact BK226.out) hb); have n1_ := am' (blk_below (g := gb227) (o := .cells #[.slice A1_0 l1_0.length c1_0, .bool a1_1] 38 (0, 0)) (by (with_reducible repeat (first | refine kn' ?_ _ | refine kd' ?_ | refine ka' ?_ _)); exact BK227.out) hb); have n2_ := am' (below_step (by repeat (first | (with_reducible first | exact HB.out | apply ba' | apply bd' | apply be' | refine bs' ?_ GE226.out | refine bs' ?_ GE227.out) | exact HB.out)) hb); clear BK226; clear BK227; clear HB; have BK226 := n0_; have BK227 := n1_; have HB := n2_; clear n0_ n1_ n2_; (try clear hb); (try clear hb2); (try clear hk); (try clear hi); have hcz16_0 : w15.cell? ⟨gb226, 0, none⟩ = some (.slice A0_0 l0_0.length c0_0) := (blk_cell BK226.out 0).trans rfl; have hcz16_1 : w15.cell? ⟨gb226, 1, none⟩ = some (.slice A0_1 l0_1.length c0_1) := (blk_cell BK226.out 1).trans rfl; have hcz16_2 : w15.cell? ⟨gb226, 2, none⟩ = some (.int .i64 a0_2) := (blk_cell BK226.out 2).trans rfl; have hfz16_0 := blk_frozen BK226.out 0; have hfz16_1 := blk_frozen BK226.out 1; have hfz16_2 := blk_frozen BK226.out 2) | (go_at_call 95; (with_reducible refine (impl_Crew_carries.calls k _ _ l0_0 _ _ l0_1 a0_2 _ _ l2 t230 _ ?side1 ?side2 ?side3 ?side4 ?side5 ?side6 A8.out).mono ?_); (case side1 => repeat (first | exact (Kd.C_below HR0_0.out HB.out) | (with_reducible refine ca' ?_ _) | (with_reducible refine cn' ?_ _) | (with_reducible refine cd' ?_))); (case side2 => exact HC0_0.out); (case side3 => repeat (first | exact (Kd.C_below HR0_1.out HB.out) | (with_reducible refine ca' ?_ _) | (with_reducible refine cn' ?_ _) | (with_reducible refine cd' ?_))); (case side4 => exact HC0_1.out); (case side5 => repeat (first | exact (Kd.C_below HR2.out HB.out) | (with_reducible refine ca' ?_ _) | (with_reducible refine cn' ?_ _) | (with_reducible refine cd' ?_))); (case side6 => exact HC2.out); rintro e w17 ⟨rfl, hb⟩; have n0_ := am' (blk_below (g := gb226) (o := .cells #[.slice A0_0 l0_0.length c0_0, .slice A0_1 l0_1.length c0_1, .int .i64 a0_2] 29 (0, 0)) (by (with_reducible repeat (first | refine kn' ?_ _ | refine kd' ?_ | refine ka' ?_ _)); exact BK226.out) hb); have n1_ := am' (blk_below (g := gb227) (o := .cells #[.slice A1_0 l1_0.length c1_0, .bool a1_1] 38 (0, 0)) (by (with_reducible repeat (first | refine kn' ?_ _ | refine kd' ?_ | refine ka' ?_ _)); exact BK227.out) hb); have n2_ := am' (below_step (by repeat (first | (with_reducible first | exact HB.out | apply ba' | apply bd' | apply be' | refine bs' ?_ GE226.out | refine bs' ?_ GE227.out) | exact HB.out)) hb); clear BK226; clear BK227; clear HB; have BK226 := n0_; have BK227 := n1_; have HB := n2_; clear n0_ n1_ n2_; (try clear hb); (try clear hb2); (try clear hk); (try clear hi)))
   go_ret
   exact ⟨by first | rfl | (simp [errW_none, errW_some] <;> rfl) | (simp [*, errW_none, errW_some] <;> rfl), by repeat (first | (with_reducible first | exact HB.out | apply ba' | apply bd' | apply be' | refine bs' ?_ GE226.out | refine bs' ?_ GE227.out) | exact HB.out)⟩
  ·
   replace c7 := Bool.eq_false_iff.mpr c7
   subst c7; have H1 : (some false) = some r := by rw [if_neg (show ¬ (false = true) by decide)] at H; exact H
   clear H; have H := H1; clear H1; obtain rfl := Option.some.inj H
   go_enter Try.func62, Try.ntmps62
   go_wp2_with (first | ((with_reducible refine gate_dst (N := 3) rfl ?_); refine box_event ?hg (N := 3) ?hd (cs := #[.slice A0_0 l0_0.length c0_0, .slice A0_1 l0_1.length c0_1, .int .i64 a0_2]) (t := 29) ?hr ?_; (case hd => rfl); (case hg => rfl); (case hr => first | (go_simp; done) | (go_simp; rfl)); intro gb226 hg w18 hbox hb; have n0_ := am' (below_step (by repeat (first | (with_reducible first | exact HB.out | apply ba' | apply bd' | apply be') | exact HB.out)) hb); have n1_ := am' (hbox); have n2_ := am' ((by rw [hg]; exact (below_size (by repeat (first | (with_reducible first | exact HB.out | apply ba' | apply bd' | apply be') | exact HB.out))) : w.heap.size ≤ gb226)); have n3_ := am' ((by rw [hg]; exact (below_size (by repeat (first | (with_reducible first | exact HB.out | apply ba' | apply bd' | apply be') | exact HB.out))) : w.heap.size ≤ gb226)); clear HB; have HB := n0_; have BK226 := n1_; have GW226 := n2_; have GE226 := n3_; clear n0_ n1_ n2_ n3_; clear hb hbox hg) | ((with_reducible refine gate_dst (N := 4) rfl ?_); refine box_event ?hg (N := 4) ?hd (cs := #[.slice A1_0 l1_0.length c1_0, .bool a1_1]) (t := 38) ?hr ?_; (case hd => rfl); (case hg => rfl); (case hr => first | (go_simp; done) | (go_simp; rfl)); intro gb227 hg w19 hbox hb; have n0_ := am' (blk_below (g := gb226) (o := .cells #[.slice A0_0 l0_0.length c0_0, .slice A0_1 l0_1.length c0_1, .int .i64 a0_2] 29 (0, 0)) (by (with_reducible repeat (first | refine kn' ?_ _ | refine kd' ?_ | refine ka' ?_ _)); exact BK226.out) hb); have n1_ := am' (below_step (by repeat (first | (with_reducible first | exact HB.out | apply ba' | apply bd' | apply be' | refine bs' ?_ GE226.out) | exact HB.out)) hb); have n2_ := am' (hbox); have n3_ := am' ((by rw [hg]; exact (below_size (by repeat (first | (with_reducible first | exact HB.out | apply ba' | apply bd' | apply be' | refine bs' ?_ GE226.out) | exact HB.out))) : w.heap.size ≤ gb227)); have n4_ := am' ((by rw [hg]; exact (below_size (by repeat (first | (with_reducible first | exact HB.out | apply ba' | apply bd' | apply be' | refine bs' ?_ GE226.out) | exact HB.out))) : w.heap.size ≤ gb227)); have n5_ := am' ((by rw [hg]; exact Nat.ne_of_lt (blk_lt (g := gb226) (o := .cells #[.slice A0_0 l0_0.length c0_0, .slice A0_1 l0_1.length c0_1, .int .i64 a0_2] 29 (0, 0)) (by (with_reducible repeat (first | refine kn' ?_ _ | refine kd' ?_ | refine ka' ?_ _)); exact BK226.out)) : gb226 ≠ gb227)); have n6_ := am' ((by rw [hg]; exact Nat.ne_of_gt (blk_lt (g := gb226) (o := .cells #[.slice A0_0 l0_0.length c0_0, .slice A0_1 l0_1.length c0_1, .int .i64 a0_2] 29 (0, 0)) (by (with_reducible repeat (first | refine kn' ?_ _ | refine kd' ?_ | refine ka' ?_ _)); exact BK226.out)) : gb227 ≠ gb226)); clear BK226; clear HB; have BK226 := n0_; have HB := n1_; have BK227 := n2_; have GW227 := n3_; have GE227 := n4_; have NB226_227 := n5_; have NB227_226 := n6_; clear n0_ n1_ n2_ n3_ n4_ n5_ n6_; clear hb hbox hg; have hnb20 := NB226_227.out; have hnc20 := NB227_226.out; have hcz21_0 : w19.cell? ⟨gb226, 0, none⟩ = some (.slice A0_0 l0_0.length c0_0) := (blk_cell BK226.out 0).trans rfl; have hcz21_1 : w19.cell? ⟨gb226, 1, none⟩ = some (.slice A0_1 l0_1.length c0_1) := (blk_cell BK226.out 1).trans rfl; have hcz21_2 : w19.cell? ⟨gb226, 2, none⟩ = some (.int .i64 a0_2) := (blk_cell BK226.out 2).trans rfl; have hfz21_0 := blk_frozen BK226.out 0; have hfz21_1 := blk_frozen BK226.out 1; have hfz21_2 := blk_frozen BK226.out 2) | ((with_reducible refine gate_callee (f := 55) rfl ?_); refine goesL_ (some 9) rfl rfl Try.func55 (by kernel_rfl) rfl #[.agg #[.slice A0_0 l0_0.length c0_0, .slice A0_1 l0_1.length c0_1, .int .i64 a0_2], .slice A2 l2.length c2] rfl (by (try simp only [List.map_toArray, List.map_cons, List.map_nil]); first | done | rfl | (simp only [List.length_drop, List.length_take]; rfl)) ?_; (with_reducible refine (impl_Crew_isGroup.calls k _ _ l0_0 _ _ l0_1 a0_2 _ _ l2 true _ ?side1 ?side2 ?side3 ?side4 ?side5 ?side6 A4.out).mono ?_); (case side1 => repeat (first | exact (Kd.C_below HR0_0.out HB.out) | (with_reducible refine ca' ?_ _) | (with_reducible refine cn' ?_ _) | (with_reducible refine cd' ?_))); (case side2 => exact HC0_0.out); (case side3 => repeat (first | exact (Kd.C_below HR0_1.out HB.out) | (with_reducible refine ca' ?_ _) | (with_reducible refine cn' ?_ _) | (with_reducible refine cd' ?_))); (case side4 => exact HC0_1.out); (case side5 => repeat (first | exact (Kd.C_below HR2.out HB.out) | (with_reducible refine ca' ?_ _) | (with_reducible refine cn' ?_ _) | (with_reducible refine cd' ?_))); (case side6 => exact HC2.out); rintro e w22 ⟨rfl, hb⟩; refine ⟨_, rfl, ?_⟩; have n0_ := am' (blk_below (g := gb226) (o := .cells #[.slice A0_0 l0_0.length c0_0, .slice A0_1 l0_1.length c0_1, .int .i64 a0_2] 29 (0, 0)) (by (with_reducible repeat (first | refine kn' ?_ _ | refine kd' ?_ | refine ka' ?_ _)); exact BK226.out) hb); have n1_ := am' (blk_below (g := gb227) (o := .cells #[.slice A1_0 l1_0.length c1_0, .bool a1_1] 38 (0, 0)) (by (with_reducible repeat (first | refine kn' ?_ _ | refine kd' ?_ | refine ka' ?_ _)); exact BK227.out) hb); have n2_ := am' (below_step (by repeat (first | (with_reducible first | exact HB.out | apply ba' | apply bd' | apply be' | refine bs' ?_ GE226.out | refine bs' ?_ GE227.out) | exact HB.out)) hb); clear BK226; clear BK227; clear HB; have BK226 := n0_; have BK227 := n1_; have HB := n2_; clear n0_ n1_ n2_; (try clear hb); (try clear hb2); (try clear hk); (try clear hi); have hcz23_0 : w22.cell? ⟨gb227, 0, none⟩ = some (.slice A1_0 l1_0.length c1_0) := (blk_cell BK227.out 0).trans rfl; have hcz23_1 : w22.cell? ⟨gb227, 1, none⟩ = some (.bool a1_1) := (blk_cell BK227.out 1).trans rfl; have hfz23_0 := blk_frozen BK227.out 0; have hfz23_1 := blk_frozen BK227.out 1) | (go_at_call 94; (with_reducible refine (impl_State_are.calls _ _ l1_0 a1_1 _ _ l2 a1_1 false _ ?side1 ?side2 ?side3 ?side4 A6.out).mono ?_); (case side1 => repeat (first | exact (Kd.C_below HR1_0.out HB.out) | (with_reducible refine ca' ?_ _) | (with_reducible refine cn' ?_ _) | (with_reducible refine cd' ?_))); (case side2 => exact HC1_0.out); (case side3 => repeat (first | exact (Kd.C_below HR2.out HB.out) | (with_reducible refine ca' ?_ _) | (with_reducible refine cn' ?_ _) | (with_reducible refine cd' ?_))); (case side4 => exact HC2.out); rintro e w24 ⟨rfl, hb⟩; have n0_ := am' (blk_below (g := gb226) (o := .cells #[.slice A0_0 l0_0.length c0_0, .slice A0_1 l0_1.length c0_1, .int .i64 a0_2] 29 (0, 0)) (by (with_reducible repeat (first | refine kn' ?_ _ | refine kd' ?_ | refine ka' ?_ _)); exact BK226.out) hb); have n1_ := am' (blk_below (g := gb227) (o := .cells #[.slice A1_0 l1_0.length c1_0, .bool a1_1] 38 (0, 0)) (by (with_reducible repeat (first | refine kn' ?_ _ | refine kd' ?_ | refine ka' ?_ _)); exact BK227.out) hb); have n2_ := am' (below_step (by repeat (first | (with_reducible first | exact HB.out | apply ba' | apply bd' | apply be' | refine bs' ?_ GE226.out | refine bs' ?_ GE227.out) | exact HB.out)) hb); clear BK226; clear BK227; clear HB; have BK226 := n0_; have BK227 := n1_; have HB := n2_; clear n0_ n1_ n2_; (try clear hb); (try clear hb2); (try clear hk); (try clear hi)))
   go_ret
   exact ⟨by first | rfl | (simp [errW_none, errW_some] <;> rfl) | (simp [*, errW_none, errW_some] <;> rfl), by repeat (first | (with_reducible first | exact HB.out | apply ba' | apply bd' | apply be' | refine bs' ?_ GE226.out | refine bs' ?_ GE227.out) | exact HB.out)⟩
 ·
  replace c5 := Bool.eq_false_iff.mpr c5
  subst c5; have H1 : (some false) = some r := by rw [if_neg (show ¬ (false = true) by decide)] at H; exact H
  clear H; have H := H1; clear H1; obtain rfl := Option.some.inj H
  go_enter Try.func62, Try.ntmps62
  go_wp2_with (first | ((with_reducible refine gate_dst (N := 3) rfl ?_); refine box_event ?hg (N := 3) ?hd (cs := #[.slice A0_0 l0_0.length c0_0, .slice A0_1 l0_1.length c0_1, .int .i64 a0_2]) (t := 29) ?hr ?_; (case hd => rfl); (case hg => rfl); (case hr => first | (go_simp; done) | (go_simp; rfl)); intro gb226 hg w25 hbox hb; have n0_ := am' (below_step (by repeat (first | (with_reducible first | exact HB.out | apply ba' | apply bd' | apply be') | exact HB.out)) hb); have n1_ := am' (hbox); have n2_ := am' ((by rw [hg]; exact (below_size (by repeat (first | (with_reducible first | exact HB.out | apply ba' | apply bd' | apply be') | exact HB.out))) : w.heap.size ≤ gb226)); have n3_ := am' ((by rw [hg]; exact (below_size (by repeat (first | (with_reducible first | exact HB.out | apply ba' | apply bd' | apply be') | exact HB.out))) : w.heap.size ≤ gb226)); clear HB; have HB := n0_; have BK226 := n1_; have GW226 := n2_; have GE226 := n3_; clear n0_ n1_ n2_ n3_; clear hb hbox hg) | ((with_reducible refine gate_dst (N := 4) rfl ?_); refine box_event ?hg (N := 4) ?hd (cs := #[.slice A1_0 l1_0.length c1_0, .bool a1_1]) (t := 38) ?hr ?_; (case hd => rfl); (case hg => rfl); (case hr => first | (go_simp; done) | (go_simp; rfl)); intro gb227 hg w26 hbox hb; have n0_ := am' (blk_below (g := gb226) (o := .cells #[.slice A0_0 l0_0.length c0_0, .slice A0_1 l0_1.length c0_1, .int .i64 a0_2] 29 (0, 0)) (by (with_reducible repeat (first | refine kn' ?_ _ | refine kd' ?_ | refine ka' ?_ _)); exact BK226.out) hb); have n1_ := am' (below_step (by repeat (first | (with_reducible first | exact HB.out | apply ba' | apply bd' | apply be' | refine bs' ?_ GE226.out) | exact HB.out)) hb); have n2_ := am' (hbox); have n3_ := am' ((by rw [hg]; exact (below_size (by repeat (first | (with_reducible first | exact HB.out | apply ba' | apply bd' | apply be' | refine bs' ?_ GE226.out) | exact HB.out))) : w.heap.size ≤ gb227)); have n4_ := am' ((by rw [hg]; exact (below_size (by repeat (first | (with_reducible first | exact HB.out | apply ba' | apply bd' | apply be' | refine bs' ?_ GE226.out) | exact HB.out))) : w.heap.size ≤ gb227)); have n5_ := am' ((by rw [hg]; exact Nat.ne_of_lt (blk_lt (g := gb226) (o := .cells #[.slice A0_0 l0_0.length c0_0, .slice A0_1 l0_1.length c0_1, .int .i64 a0_2] 29 (0, 0)) (by (with_reducible repeat (first | refine kn' ?_ _ | refine kd' ?_ | refine ka' ?_ _)); exact BK226.out)) : gb226 ≠ gb227)); have n6_ := am' ((by rw [hg]; exact Nat.ne_of_gt (blk_lt (g := gb226) (o := .cells #[.slice A0_0 l0_0.length c0_0, .slice A0_1 l0_1.length c0_1, .int .i64 a0_2] 29 (0, 0)) (by (with_reducible repeat (first | refine kn' ?_ _ | refine kd' ?_ | refine ka' ?_ _)); exact BK226.out)) : gb227 ≠ gb226)); clear BK226; clear HB; have BK226 := n0_; have HB := n1_; have BK227 := n2_; have GW227 := n3_; have GE227 := n4_; have NB226_227 := n5_; have NB227_226 := n6_; clear n0_ n1_ n2_ n3_ n4_ n5_ n6_; clear hb hbox hg; have hnb27 := NB226_227.out; have hnc27 := NB227_226.out; have hcz28_0 : w26.cell? ⟨gb226, 0, none⟩ = some (.slice A0_0 l0_0.length c0_0) := (blk_cell BK226.out 0).trans rfl; have hcz28_1 : w26.cell? ⟨gb226, 1, none⟩ = some (.slice A0_1 l0_1.length c0_1) := (blk_cell BK226.out 1).trans rfl; have hcz28_2 : w26.cell? ⟨gb226, 2, none⟩ = some (.int .i64 a0_2) := (blk_cell BK226.out 2).trans rfl; have hfz28_0 := blk_frozen BK226.out 0; have hfz28_1 := blk_frozen BK226.out 1; have hfz28_2 := blk_frozen BK226.out 2) | ((with_reducible refine gate_callee (f := 55) rfl ?_); refine goesL_ (some 9) rfl rfl Try.func55 (by kernel_rfl) rfl #[.agg #[.slice A0_0 l0_0.length c0_0, .slice A0_1 l0_1.length c0_1, .int .i64 a0_2], .slice A2 l2.length c2] rfl (by (try simp only [List.map_toArray, List.map_cons, List.map_nil]); first | done | rfl | (simp only [List.length_drop, List.length_take]; rfl)) ?_; (with_reducible refine (impl_Crew_isGroup.calls k _ _ l0_0 _ _ l0_1 a0_2 _ _ l2 false _ ?side1 ?side2 ?side3 ?side4 ?side5 ?side6 A4.out).mono ?_); (case side1 => repeat (first | exact (Kd.C_below HR0_0.out HB.out) | (with_reducible refine ca' ?_ _) | (with_reducible refine cn' ?_ _) | (with_reducible refine cd' ?_))); (case side2 => exact HC0_0.out); (case side3 => repeat (first | exact (Kd.C_below HR0_1.out HB.out) | (with_reducible refine ca' ?_ _) | (with_reducible refine cn' ?_ _) | (with_reducible refine cd' ?_))); (case side4 => exact HC0_1.out); (case side5 => repeat (first | exact (Kd.C_below HR2.out HB.out) | (with_reducible refine ca' ?_ _) | (with_reducible refine cn' ?_ _) | (with_reducible refine cd' ?_))); (case side6 => exact HC2.out); rintro e w29 ⟨rfl, hb⟩; refine ⟨_, rfl, ?_⟩; have n0_ := am' (blk_below (g := gb226) (o := .cells #[.slice A0_0 l0_0.length c0_0, .slice A0_1 l0_1.length c0_1, .int .i64 a0_2] 29 (0, 0)) (by (with_reducible repeat (first | refine kn' ?_ _ | refine kd' ?_ | refine ka' ?_ _)); exact BK226.out) hb); have n1_ := am' (blk_below (g := gb227) (o := .cells #[.slice A1_0 l1_0.length c1_0, .bool a1_1] 38 (0, 0)) (by (with_reducible repeat (first | refine kn' ?_ _ | refine kd' ?_ | refine ka' ?_ _)); exact BK227.out) hb); have n2_ := am' (below_step (by repeat (first | (with_reducible first | exact HB.out | apply ba' | apply bd' | apply be' | refine bs' ?_ GE226.out | refine bs' ?_ GE227.out) | exact HB.out)) hb); clear BK226; clear BK227; clear HB; have BK226 := n0_; have BK227 := n1_; have HB := n2_; clear n0_ n1_ n2_; (try clear hb); (try clear hb2); (try clear hk); (try clear hi)))
  go_ret
  exact ⟨by first | rfl | (simp [errW_none, errW_some] <;> rfl) | (simp [*, errW_none, errW_some] <;> rfl), by repeat (first | (with_reducible first | exact HB.out | apply ba' | apply bd' | apply be' | refine bs' ?_ GE226.out | refine bs' ?_ GE227.out) | exact HB.out)⟩
def slices_Clone_bool_bool.f (l0 : List Bool) : Option (List Bool) := if l0.length < 140737488355328 then some l0 else none
set_option maxHeartbeats 2000000 in
set_option maxRecDepth 100000 in
theorem slices_Clone_bool_bool.calls (A0 : Option Addr) (c0 : Nat) (l0 : List Bool) (r : List Bool) (w : World) (hr0 : Kd.C Kd.bool w A0 l0.length l0) (hc0 : l0.length ≤ c0) (h : slices_Clone_bool_bool.f l0 = some r) :
  Calls Try.prog 96 #[.slice A0 l0.length c0] w fun e w' => ∃ v0_ : Value, e = .returned (v0_) ∧ Kd.R Kd.bool 4 w' w.heap.size (fun _ => True) v0_ r ∧ Below w.heap.size w w' := by
 have hinfo : (Try.prog.info? 4).map (fun i => (i.zero, i.size, i.bytes)) = some (some (.bool false), 1, 1) := by kernel_rfl
 obtain ⟨hlim, rfl⟩ : l0.length < 140737488355328 ∧ l0 = r := by
  unfold slices_Clone_bool_bool.f at h
  by_cases hl : l0.length < 140737488355328
  ·
   rw [if_pos hl] at h; exact ⟨hl, Option.some.inj h⟩
  ·
   rw [if_neg hl] at h; cases h
 clear h; cases A0 with
 | none =>
  obtain rfl : l0 = [] := by
   cases l0 with
   | nil => rfl
   | cons x l => obtain ⟨_, e, _⟩ := hr0.2.2 (by simp); cases e
  clear hr0 hc0 hlim hinfo; have heq := fun (w : World) (n c : Nat) => Lib.run_eql_slice_nil (P := Try.prog) w 23 4 none n c 0 0 Try.underlying23
  go_enter Try.func96, Try.ntmps96
  go_wp2
  go_ret
  exact ⟨_, rfl, Kd.R_nil _ _ _ _ _, Below.refl _ _⟩
 | some a =>
  have HR0 := am' hr0
  have HL := am' hlim
  have hie := am' hinfo
  clear hr0 hc0 hlim hinfo; have HB := am' (Below.refl w.heap.size w)
  have heq := fun (w : World) (n c : Nat) => Lib.run_eql_slice_nil (P := Try.prog) w 23 4 (some a) n c 0 0 Try.underlying23
  go_enter Try.func96, Try.ntmps96
  go_wp2_with (first | ((with_reducible refine gate_dst (N := 5) rfl ?_); refine Kd.R_lit Kd.bool _ 4 ?hg (N := 5) ?hd (xs := ([] : List Bool)) (inner := []) (ok := fun _ => True) (okp := fun _ => True) ?hr ?hp (fun _ hk => hk) trivial (Below.refl _ _) (Nat.le_refl _) (by simp) ?_; (case hd => rfl); (case hg => rfl); (case hr => first | (go_simp; done) | (go_simp; rfl)); (case hp => exact (Reps.none _ _)); intro v210 w3 ho4 hb hg_ hnew_; clear hg_ hnew_; have n0_ := am' (Kd.R_lower ho4 (below_size HB.out)); have n1_ := am' (below_step HB.out hb); clear HB; have HO211 := n0_; have HB := n1_; clear n0_ n1_; clear hb ho4) | ((with_reducible refine gate_builtin (b := .append) (xs := #[.tmp 5, .tmp 6]) rfl ?_); at_builtin; refine Kd.R_append_rows Kd.bool (w0 := w) w.heap.size rfl (.tmp 5) (.tmp 6) 23 4 (.bool false) 1 rfl Try.underlying23 hie.out rfl (by decide) (by omega) v210 [] l0 _ _ _ (fun _ => True) (fun _ => False) rfl rfl ?aO ?aR (fun _ _ h => h) (fun _ h => h.elim) ?aF ?aB ?aS ?aL ?_; (case aR => exact (Kd.C_below HR0.out HB.out)); (case aB => exact HB.out); (case aF => exact (fun _ _ => trivial)); (case aO => exact HO211.out); (case aS => exact (below_size HB.out)); (case aL => have := HL.out; simp; omega); intro v213 w5 ho hb hg hat; have n0_ := am' (hb); have n1_ := am' (ho); clear HB; clear HO211; have HB := n0_; have HO214 := n1_; clear n0_ n1_; clear ho hb hg hat))
  go_ret
  exact ⟨_, rfl, by simpa using HO214.out, HB.out⟩
def impl_State_moved.l0 : Nat → List Int → Int → Int → List Bool → Bool → Option (List Bool × Bool)
 | 0, _, _, _, _, _ => none
 | k + 1, x15, x16, x17, x237000, x237001 => if x17 < x16 then (if 0 ≤ x17 then (if x17 < (x15.length : Int) then (if 0 ≤ (rd x15 x17) then (if (rd x15 x17) < (x237000.length : Int) then (impl_State_moved.l0 k x15 x16 (wrap64 (x17 + 1)) (x237000.set ((rd x15 x17) : Int).toNat x237001) x237001) else (none)) else (none)) else (none)) else (none)) else (some (x237000, x237001))
def impl_State_moved.f (k : Nat) (l0_0 : List Bool) (a0_1 : Bool) (l1 : List Int) : Option (List Bool × Bool) := (slices_Clone_bool_bool.f l0_0).bind fun t233 => (impl_State_moved.l0 k l1 (l1.length : Int) 0 t233 (!a0_1))
def impl_State_moved.T1 : Bool × List (List Nat × List Nat) := (true, [([], []), ([0], [0]), ([1], [1]), ([], []), ([3], [3]), ([4], [4]), ([2, 5], [2, 5]), ([], []), ([7, 6, 2, 0, 1, 2, 3, 4, 5, 6, 7], [6, 7])])
def impl_State_moved.B1 : List Nat := [0, 1, 3, 0, 8, 24, 63, 0, 255]
theorem impl_State_moved.tab1 : rtab .any (opsOf Try.f63 1) = impl_State_moved.T1 := by kernel_rfl
theorem impl_State_moved.bits1 : waitsOk impl_State_moved.T1.2 impl_State_moved.B1 = true := by kernel_rfl
set_option maxHeartbeats 8000000 in
set_option maxRecDepth 100000 in
theorem impl_State_moved.calls (k : Nat) (A0_0 : Option Addr) (c0_0 : Nat) (l0_0 : List Bool) (a0_1 : Bool) (A1 : Option Addr) (c1 : Nat) (l1 : List Int) (r1 : List Bool) (r2 : Bool) (w : World) (hr0_0 : Kd.C Kd.bool w A0_0 l0_0.length l0_0) (hc0_0 : l0_0.length ≤ c0_0) (hr1 : Kd.C (Kd.int .i64) w A1 l1.length l1) (hc1 : l1.length ≤ c1) (h : impl_State_moved.f k l0_0 a0_1 l1 = some (r1, r2)) :
  Calls Try.prog 63 #[.agg #[.slice A0_0 l0_0.length c0_0, .bool a0_1], .slice A1 l1.length c1] w fun e w' => ∃ v0_ : Value, e = .returned (.agg #[v0_, .bool r2]) ∧ Kd.R Kd.bool 4 w' w.heap.size (fun _ => True) v0_ r1 ∧ Below w.heap.size w w' := by
 have hu38 := Try.underlying38
 have HR0_0 := am' hr0_0
 have HC0_0 := am' hc0_0
 clear hr0_0 hc0_0; have HR1 := am' hr1
 have HC1 := am' hc1
 clear hr1 hc1; have HB := am' (Below.refl w.heap.size w)
 have H : ((slices_Clone_bool_bool.f l0_0).bind fun t233 => (impl_State_moved.l0 k l1 (l1.length : Int) 0 t233 (!a0_1))) = some (r1, r2) := h
 clear h; replace H := Option.bind_eq_some_iff.mp H
 obtain ⟨t233, A30, H⟩ := H
 replace H : (impl_State_moved.l0 k l1 (l1.length : Int) 0 t233 (!a0_1)) = some (r1, r2) := H
 have A3 := am' A30
 clear A30; have H' := am' H
 clear H; go_enter Try.func63, Try.ntmps63
 try go_wp2_with (first | ((with_reducible refine gate_dst (N := 2) rfl ?_); refine box_event ?hg (N := 2) ?hd (cs := #[.slice A0_0 l0_0.length c0_0, .bool a0_1]) (t := 38) ?hr ?_; (case hd => rfl); (case hg => rfl); (case hr => first | (go_simp; done) | (go_simp; rfl)); intro gb231 hg w4 hbox hb; have n0_ := am' (below_step (by repeat (first | (with_reducible first | exact HB.out | apply ba' | apply bd' | apply be') | exact HB.out)) hb); have n1_ := am' (hbox); have n2_ := am' ((by rw [hg]; exact (below_size (by repeat (first | (with_reducible first | exact HB.out | apply ba' | apply bd' | apply be') | exact HB.out))) : w.heap.size ≤ gb231)); have n3_ := am' ((by rw [hg]; exact (below_size (by repeat (first | (with_reducible first | exact HB.out | apply ba' | apply bd' | apply be') | exact HB.out))) : w.heap.size ≤ gb231)); clear HB; have HB := n0_; have BK231 := n1_; have GW231 := n2_; have GE231 := n3_; clear n0_ n1_ n2_ n3_; clear hb hbox hg) | ((with_reducible refine gate_dst (N := 4) rfl ?_); refine box_event ?hg (N := 4) ?hd (cs := #[.slice none 0 0, .bool false]) (t := 38) ?hr ?_; (case hd => rfl); (case hg => rfl); (case hr => first | (go_simp; done) | (go_simp; rfl)); intro gb232 hg w5 hbox hb; have n0_ := am' (blk_below (g := gb231) (o := .cells #[.slice A0_0 l0_0.length c0_0, .bool a0_1] 38 (0, 0)) (by (with_reducible repeat (first | refine kn' ?_ _ | refine kd' ?_ | refine ka' ?_ _)); exact BK231.out) hb); have n1_ := am' (below_step (by repeat (first | (with_reducible first | exact HB.out | apply ba' | apply bd' | apply be' | refine bs' ?_ GE231.out) | exact HB.out)) hb); have n2_ := am' (hbox); have n3_ := am' ((by rw [hg]; exact (below_size (by repeat (first | (with_reducible first | exact HB.out | apply ba' | apply bd' | apply be' | refine bs' ?_ GE231.out) | exact HB.out))) : w.heap.size ≤ gb232)); have n4_ := am' ((by rw [hg]; exact (below_size (by repeat (first | (with_reducible first | exact HB.out | apply ba' | apply bd' | apply be' | refine bs' ?_ GE231.out) | exact HB.out))) : w.heap.size ≤ gb232)); have n5_ := am' ((by rw [hg]; exact Nat.ne_of_lt (blk_lt (g := gb231) (o := .cells #[.slice A0_0 l0_0.length c0_0, .bool a0_1] 38 (0, 0)) (by (with_reducible repeat (first | refine kn' ?_ _ | refine kd' ?_ | refine ka' ?_ _)); exact BK231.out)) : gb231 ≠ gb232)); have n6_ := am' ((by rw [hg]; exact Nat.ne_of_gt (blk_lt (g := gb231) (o := .cells #[.slice A0_0 l0_0.length c0_0, .bool a0_1] 38 (0, 0)) (by (with_reducible repeat (first | refine kn' ?_ _ | refine kd' ?_ | refine ka' ?_ _)); exact BK231.out)) : gb232 ≠ gb231)); clear BK231; clear HB; have BK231 := n0_; have HB := n1_; have BK232 := n2_; have GW232 := n3_; have GE232 := n4_; have NB231_232 := n5_; have NB232_231 := n6_; clear n0_ n1_ n2_ n3_ n4_ n5_ n6_; clear hb hbox hg))
 have n0_ := am' (kd' BK231.out)
 have n1_ := am' (kd' BK232.out)
 have n2_ := am' (be' HB.out)
 clear BK231; clear BK232; clear HB; have BK231 := n0_; have BK232 := n1_; have HB := n2_; clear n0_ n1_ n2_; refine start_ (n := 9) (S := fun w' => w'.cell? ⟨gb231, 0, none⟩ = some (.slice A0_0 l0_0.length c0_0) ∧ w'.cell? ⟨gb231, 1, none⟩ = some (.bool a0_1)) (ds := []) #[false, false, false, false, false, false, false, false, false] (by kernel_rfl) rfl rfl ⟨(blk_cell BK231.out 0).trans rfl, (blk_cell BK231.out 1).trans rfl⟩ (fun hHeld => ?_); refine with_tabW impl_State_moved.tab1 impl_State_moved.bits1 (fun HT_ HW_ => ?_)
 generalize w5.drew = w6 at BK231 BK232 HB hHeld ⊢
 refine pure_ (i := 0) (N := some 8) (v := ?_) (a' := ?_) #[true, false, false, false, false, false, false, false, false] rfl rfl (any_of HT_.out (by kernel_rfl)) (fun _ _ _ h => h) (Or.inl ⟨by rfl, ?_⟩) ?_ ?_
 rotate_left
 ·
  intro w'; go_simp; with_reducible rfl
 rotate_left
 ·
  simp only [Act.put, sa', sb', sc', i64_w, i32_w]
  rfl
 refine pure_ (i := 3) (N := some 11) (v := ?_) (a' := ?_) #[true, false, false, true, false, false, false, false, false] rfl rfl (any_of HT_.out (by kernel_rfl)) (fun _ _ _ h => h) (Or.inl ⟨by rfl, ?_⟩) ?_ ?_
 rotate_left
 ·
  intro w'; go_simp; with_reducible rfl
 rotate_left
 ·
  simp only [Act.put, sa', sb', sc', i64_w, i32_w]
  rfl
 refine take_ (i := 1) (N := some 9) (v := ?_) (a' := ?_) #[true, true, false, true, false, false, false, false, false] rfl rfl (take_ofW HT_.out HW_.out (by kernel_rfl)) (fun _ _ _ h => h) (Or.inl ⟨by rfl, ?_⟩) hHeld ?_ ?_
 rotate_left
 ·
  rintro w' ⟨s0, s1⟩
  go_simp; with_reducible rfl
 rotate_left
 ·
  simp only [Act.put, sa', sb', sc', i64_w, i32_w]
  rfl
 refine take_ (i := 4) (N := some 12) (v := ?_) (a' := ?_) #[true, true, false, true, true, false, false, false, false] rfl rfl (take_ofW HT_.out HW_.out (by kernel_rfl)) (fun _ _ _ h => h) (Or.inl ⟨by rfl, ?_⟩) hHeld ?_ ?_
 rotate_left
 ·
  rintro w' ⟨s0, s1⟩
  go_simp; with_reducible rfl
 rotate_left
 ·
  simp only [Act.put, sa', sb', sc', i64_w, i32_w]
  rfl
 refine pure_ (i := 5) (N := some 13) (v := ?_) (a' := ?_) #[true, true, false, true, true, true, false, false, false] rfl rfl (any_of HT_.out (by kernel_rfl)) (fun _ _ _ h => h) (Or.inl ⟨by rfl, ?_⟩) ?_ ?_
 rotate_left
 ·
  intro w'; go_simp; with_reducible rfl
 rotate_left
 ·
  simp only [Act.put, sa', sb', sc', i64_w, i32_w]
  rfl
 refine join_ (σ := Value × Nat) 1 #[true, true, true, true, true, true, true, true, false] (fun s_ => [(10, s_.1), (5, .pointer (some ⟨s_.2, 0, none⟩)), (14, .agg #[s_.1, .bool (!a0_1)])]) (fun s_ w' => (w'.cell? ⟨gb231, 0, none⟩ = some (.slice A0_0 l0_0.length c0_0) ∧ w'.cell? ⟨gb231, 1, none⟩ = some (.bool a0_1)) ∧ (Kd.R Kd.bool 4 w' w.heap.size (fun _ => True) s_.1 t233) ∧ (w'.heap[gb231]? = some (.cells #[.slice A0_0 l0_0.length c0_0, .bool a0_1] 38 (0, 0))) ∧ (w'.heap[gb232]? = some (.cells #[.slice none 0 0, .bool false] 38 (0, 0))) ∧ (w'.heap[s_.2]? = some (.cells #[.slice none 0 0, .bool false] 38 (0, 0))) ∧ (w.heap.size ≤ s_.2) ∧ (w.heap.size ≤ s_.2) ∧ (gb231 ≠ s_.2) ∧ (s_.2 ≠ gb231) ∧ (gb232 ≠ s_.2) ∧ (s_.2 ≠ gb232) ∧ (Below w.heap.size w w')) ?_ ?_
 rotate_left
 ·
  intro hCont; refine two_ (i := 2) (j := 7) (Ni := some 10) (Nj := some 5) #[true, true, true, true, true, true, false, false, false] #[true, true, false, true, true, true, false, true, false] rfl rfl rfl rfl (two_of HT_.out (by kernel_rfl)) (by decide) (by decide) (fun K hK => ?_) (fun K hK => ?_)
  ·
   skip
   refine goes_ Try.func96 (by kernel_rfl) rfl #[.slice A0_0 l0_0.length c0_0] (by rfl) rfl rfl (by (try simp only [List.map_toArray, List.map_cons, List.map_nil]); first | done | rfl | (simp only [List.length_drop, List.length_take]; rfl)) ?_
   with_reducible refine (slices_Clone_bool_bool.calls _ _ l0_0 t233 _ ?side1 ?side2 A3.out).mono ?_
   (case side1 => repeat (first | exact (Kd.C_below HR0_0.out HB.out) | (with_reducible refine ca' ?_ _) | (with_reducible refine cn' ?_ _) | (with_reducible refine cd' ?_)))
   (case side2 => exact HC0_0.out)
   rintro e w7 ⟨v234, rfl, ho0, hb⟩
   refine ⟨_, rfl, ?_⟩
   have n0_ := am' (Kd.R_lower ho0 (below_size (by repeat (first | (with_reducible first | exact HB.out | apply ba' | apply bd' | apply be' | refine bs' ?_ GE231.out | refine bs' ?_ GE232.out) | exact HB.out))))
   have n1_ := am' (blk_below (g := gb231) (o := .cells #[.slice A0_0 l0_0.length c0_0, .bool a0_1] 38 (0, 0)) (by (with_reducible repeat (first | refine kn' ?_ _ | refine kd' ?_ | refine ka' ?_ _)); exact BK231.out) hb)
   have n2_ := am' (blk_below (g := gb232) (o := .cells #[.slice none 0 0, .bool false] 38 (0, 0)) (by (with_reducible repeat (first | refine kn' ?_ _ | refine kd' ?_ | refine ka' ?_ _)); exact BK232.out) hb)
   have n3_ := am' (below_step (by repeat (first | (with_reducible first | exact HB.out | apply ba' | apply bd' | apply be' | refine bs' ?_ GE231.out | refine bs' ?_ GE232.out) | exact HB.out)) hb)
   clear BK231; clear BK232; clear HB; have HO235 := n0_; have BK231 := n1_; have BK232 := n2_; have HB := n3_; clear n0_ n1_ n2_ n3_; (try clear hb)
   (try clear hb2)
   (try clear hk)
   (try clear hi)
   (try clear ho0)
   obtain ⟨Ao8, co8, eo8⟩ := Kd.R_slice HO235.out
   (first | subst eo8 | (injection eo8 with f1_ f2_ f3_; have f4_ := f1_.symm; have f5_ := f3_.symm; clear f1_ f2_ f3_; subst f4_; subst f5_))
   refine hK.out _ _ ⟨(blk_cell BK231.out 0).trans rfl, (blk_cell BK231.out 1).trans rfl⟩ (fun hHeld => ?_)
   clear hK K; refine norm_ (a' := ?_) ?_ ?_
   rotate_left
   ·
    show Act.put _ (some 10) _ = _
    simp only [Act.put, sa', sb', sc', i64_w, i32_w]
    rfl
   refine pure_ (i := 6) (N := some 14) (v := ?_) (a' := ?_) #[true, true, true, true, true, true, true, false, false] rfl rfl (any_of HT_.out (by kernel_rfl)) (fun _ _ _ h => h) (Or.inl ⟨by rfl, ?_⟩) ?_ ?_
   rotate_left
   ·
    intro w'; go_simp; with_reducible rfl
   rotate_left
   ·
    simp only [Act.put, sa', sb', sc', i64_w, i32_w]
    rfl
   refine one_ (i := 7) (N := some 5) #[true, true, true, true, true, true, true, true, false] rfl rfl (one_of HT_.out (by kernel_rfl)) (by decide) (fun K hK => ?_)
   refine box_step ?hg (N := 5) ?hd (cs := #[.slice none 0 0, .bool false]) (t := 38) ?hr ?_; (case hd => rfl); (case hg => rfl); (case hr => first | (go_simp; done) | (go_simp; rfl))
   intro gb236 hg w9 hbox hb; have n0_ := am' (Kd.R_below (by (with_reducible repeat (first | apply ra' | apply rn' | apply rw')); exact HO235.out) hb)
   have n1_ := am' (blk_below (g := gb231) (o := .cells #[.slice A0_0 l0_0.length c0_0, .bool a0_1] 38 (0, 0)) (by (with_reducible repeat (first | refine kn' ?_ _ | refine kd' ?_ | refine ka' ?_ _)); exact BK231.out) hb)
   have n2_ := am' (blk_below (g := gb232) (o := .cells #[.slice none 0 0, .bool false] 38 (0, 0)) (by (with_reducible repeat (first | refine kn' ?_ _ | refine kd' ?_ | refine ka' ?_ _)); exact BK232.out) hb)
   have n3_ := am' (below_step (by repeat (first | (with_reducible first | exact HB.out | apply ba' | apply bd' | apply be' | refine bs' ?_ GE231.out | refine bs' ?_ GE232.out) | exact HB.out)) hb)
   have n4_ := am' (hbox)
   have n5_ := am' ((by rw [hg]; exact (below_size (by repeat (first | (with_reducible first | exact HB.out | apply ba' | apply bd' | apply be' | refine bs' ?_ GE231.out | refine bs' ?_ GE232.out) | exact HB.out))) : w.heap.size ≤ gb236))
   have n6_ := am' ((by rw [hg]; exact (below_size (by repeat (first | (with_reducible first | exact HB.out | apply ba' | apply bd' | apply be' | refine bs' ?_ GE231.out | refine bs' ?_ GE232.out) | exact HB.out))) : w.heap.size ≤ gb236))
   have n7_ := am' ((by rw [hg]; exact Nat.ne_of_lt (blk_lt (g := gb231) (o := .cells #[.slice A0_0 l0_0.length c0_0, .bool a0_1] 38 (0, 0)) (by (with_reducible repeat (first | refine kn' ?_ _ | refine kd' ?_ | refine ka' ?_ _)); exact BK231.out)) : gb231 ≠ gb236))
   have n8_ := am' ((by rw [hg]; exact Nat.ne_of_gt (blk_lt (g := gb231) (o := .cells #[.slice A0_0 l0_0.length c0_0, .bool a0_1] 38 (0, 0)) (by (with_reducible repeat (first | refine kn' ?_ _ | refine kd' ?_ | refine ka' ?_ _)); exact BK231.out)) : gb236 ≠ gb231))
   have n9_ := am' ((by rw [hg]; exact Nat.ne_of_lt (blk_lt (g := gb232) (o := .cells #[.slice none 0 0, .bool false] 38 (0, 0)) (by (with_reducible repeat (first | refine kn' ?_ _ | refine kd' ?_ | refine ka' ?_ _)); exact BK232.out)) : gb232 ≠ gb236))
   have n10_ := am' ((by rw [hg]; exact Nat.ne_of_gt (blk_lt (g := gb232) (o := .cells #[.slice none 0 0, .bool false] 38 (0, 0)) (by (with_reducible repeat (first | refine kn' ?_ _ | refine kd' ?_ | refine ka' ?_ _)); exact BK232.out)) : gb236 ≠ gb232))
   clear HO235; clear BK231; clear BK232; clear HB; have HO235 := n0_; have BK231 := n1_; have BK232 := n2_; have HB := n3_; have BK236 := n4_; have GW236 := n5_; have GE236 := n6_; have NB231_236 := n7_; have NB236_231 := n8_; have NB232_236 := n9_; have NB236_232 := n10_; clear n0_ n1_ n2_ n3_ n4_ n5_ n6_ n7_ n8_ n9_ n10_; clear hb hbox hg; refine hK.out _ _ ⟨(blk_cell BK231.out 0).trans rfl, (blk_cell BK231.out 1).trans rfl⟩ (fun hHeld => ?_)
   clear hK K; refine norm_ (a' := ?_) ?_ ?_
   rotate_left
   ·
    show Act.put _ (some 5) _ = _
    simp only [Act.put, sa', sb', sc', i64_w, i32_w]
    rfl
   exact norm_ (by simp only [putAll, Act.put, sa', sb', sc']) (hCont (.slice Ao8 t233.length co8, gb236) _ ⟨hHeld, (by (with_reducible repeat (first | apply ra' | apply rn' | apply rw')); exact HO235.out), (by (with_reducible repeat (first | refine kn' ?_ _ | refine kd' ?_ | refine ka' ?_ _)); exact BK231.out), (by (with_reducible repeat (first | refine kn' ?_ _ | refine kd' ?_ | refine ka' ?_ _)); exact BK232.out), (by (with_reducible repeat (first | refine kn' ?_ _ | refine kd' ?_ | refine ka' ?_ _)); exact BK236.out), GW236.out, GE236.out, NB231_236.out, NB236_231.out, NB232_236.out, NB236_232.out, (by repeat (first | (with_reducible first | exact HB.out | apply ba' | apply bd' | apply be' | refine bs' ?_ GE231.out | refine bs' ?_ GE232.out | refine bs' ?_ GE236.out) | exact HB.out))⟩)
  ·
   skip
   refine box_step ?hg (N := 5) ?hd (cs := #[.slice none 0 0, .bool false]) (t := 38) ?hr ?_; (case hd => rfl); (case hg => rfl); (case hr => first | (go_simp; done) | (go_simp; rfl))
   intro gb236 hg w7 hbox hb; have n0_ := am' (blk_below (g := gb231) (o := .cells #[.slice A0_0 l0_0.length c0_0, .bool a0_1] 38 (0, 0)) (by (with_reducible repeat (first | refine kn' ?_ _ | refine kd' ?_ | refine ka' ?_ _)); exact BK231.out) hb)
   have n1_ := am' (blk_below (g := gb232) (o := .cells #[.slice none 0 0, .bool false] 38 (0, 0)) (by (with_reducible repeat (first | refine kn' ?_ _ | refine kd' ?_ | refine ka' ?_ _)); exact BK232.out) hb)
   have n2_ := am' (below_step (by repeat (first | (with_reducible first | exact HB.out | apply ba' | apply bd' | apply be' | refine bs' ?_ GE231.out | refine bs' ?_ GE232.out) | exact HB.out)) hb)
   have n3_ := am' (hbox)
   have n4_ := am' ((by rw [hg]; exact (below_size (by repeat (first | (with_reducible first | exact HB.out | apply ba' | apply bd' | apply be' | refine bs' ?_ GE231.out | refine bs' ?_ GE232.out) | exact HB.out))) : w.heap.size ≤ gb236))
   have n5_ := am' ((by rw [hg]; exact (below_size (by repeat (first | (with_reducible first | exact HB.out | apply ba' | apply bd' | apply be' | refine bs' ?_ GE231.out | refine bs' ?_ GE232.out) | exact HB.out))) : w.heap.size ≤ gb236))
   have n6_ := am' ((by rw [hg]; exact Nat.ne_of_lt (blk_lt (g := gb231) (o := .cells #[.slice A0_0 l0_0.length c0_0, .bool a0_1] 38 (0, 0)) (by (with_reducible repeat (first | refine kn' ?_ _ | refine kd' ?_ | refine ka' ?_ _)); exact BK231.out)) : gb231 ≠ gb236))
   have n7_ := am' ((by rw [hg]; exact Nat.ne_of_gt (blk_lt (g := gb231) (o := .cells #[.slice A0_0 l0_0.length c0_0, .bool a0_1] 38 (0, 0)) (by (with_reducible repeat (first | refine kn' ?_ _ | refine kd' ?_ | refine ka' ?_ _)); exact BK231.out)) : gb236 ≠ gb231))
   have n8_ := am' ((by rw [hg]; exact Nat.ne_of_lt (blk_lt (g := gb232) (o := .cells #[.slice none 0 0, .bool false] 38 (0, 0)) (by (with_reducible repeat (first | refine kn' ?_ _ | refine kd' ?_ | refine ka' ?_ _)); exact BK232.out)) : gb232 ≠ gb236))
   have n9_ := am' ((by rw [hg]; exact Nat.ne_of_gt (blk_lt (g := gb232) (o := .cells #[.slice none 0 0, .bool false] 38 (0, 0)) (by (with_reducible repeat (first | refine kn' ?_ _ | refine kd' ?_ | refine ka' ?_ _)); exact BK232.out)) : gb236 ≠ gb232))
   clear BK231; clear BK232; clear HB; have BK231 := n0_; have BK232 := n1_; have HB := n2_; have BK236 := n3_; have GW236 := n4_; have GE236 := n5_; have NB231_236 := n6_; have NB236_231 := n7_; have NB232_236 := n8_; have NB236_232 := n9_; clear n0_ n1_ n2_ n3_ n4_ n5_ n6_ n7_ n8_ n9_; clear hb hbox hg; refine hK.out _ _ ⟨(blk_cell BK231.out 0).trans rfl, (blk_cell BK231.out 1).trans rfl⟩ (fun hHeld => ?_)
   clear hK K; refine norm_ (a' := ?_) ?_ ?_
   rotate_left
   ·
    show Act.put _ (some 5) _ = _
    simp only [Act.put, sa', sb', sc', i64_w, i32_w]
    rfl
   refine one_ (i := 2) (N := some 10) #[true, true, true, true, true, true, false, true, false] rfl rfl (one_of HT_.out (by kernel_rfl)) (by decide) (fun K hK => ?_)
   refine goes_ Try.func96 (by kernel_rfl) rfl #[.slice A0_0 l0_0.length c0_0] (by rfl) rfl rfl (by (try simp only [List.map_toArray, List.map_cons, List.map_nil]); first | done | rfl | (simp only [List.length_drop, List.length_take]; rfl)) ?_
   with_reducible refine (slices_Clone_bool_bool.calls _ _ l0_0 t233 _ ?side1 ?side2 A3.out).mono ?_
   (case side1 => repeat (first | exact (Kd.C_below HR0_0.out HB.out) | (with_reducible refine ca' ?_ _) | (with_reducible refine cn' ?_ _) | (with_reducible refine cd' ?_)))
   (case side2 => exact HC0_0.out)
   rintro e w8 ⟨v234, rfl, ho0, hb⟩
   refine ⟨_, rfl, ?_⟩
   have n0_ := am' (Kd.R_lower ho0 (below_size (by repeat (first | (with_reducible first | exact HB.out | apply ba' | apply bd' | apply be' | refine bs' ?_ GE231.out | refine bs' ?_ GE232.out | refine bs' ?_ GE236.out) | exact HB.out))))
   have n1_ := am' (blk_below (g := gb231) (o := .cells #[.slice A0_0 l0_0.length c0_0, .bool a0_1] 38 (0, 0)) (by (with_reducible repeat (first | refine kn' ?_ _ | refine kd' ?_ | refine ka' ?_ _)); exact BK231.out) hb)
   have n2_ := am' (blk_below (g := gb232) (o := .cells #[.slice none 0 0, .bool false] 38 (0, 0)) (by (with_reducible repeat (first | refine kn' ?_ _ | refine kd' ?_ | refine ka' ?_ _)); exact BK232.out) hb)
   have n3_ := am' (blk_below (g := gb236) (o := .cells #[.slice none 0 0, .bool false] 38 (0, 0)) (by (with_reducible repeat (first | refine kn' ?_ _ | refine kd' ?_ | refine ka' ?_ _)); exact BK236.out) hb)
   have n4_ := am' (below_step (by repeat (first | (with_reducible first | exact HB.out | apply ba' | apply bd' | apply be' | refine bs' ?_ GE231.out | refine bs' ?_ GE232.out | refine bs' ?_ GE236.out) | exact HB.out)) hb)
   clear BK231; clear BK232; clear BK236; clear HB; have HO235 := n0_; have BK231 := n1_; have BK232 := n2_; have BK236 := n3_; have HB := n4_; clear n0_ n1_ n2_ n3_ n4_; (try clear hb)
   (try clear hb2)
   (try clear hk)
   (try clear hi)
   (try clear ho0)
   obtain ⟨Ao9, co9, eo9⟩ := Kd.R_slice HO235.out
   (first | subst eo9 | (injection eo9 with f1_ f2_ f3_; have f4_ := f1_.symm; have f5_ := f3_.symm; clear f1_ f2_ f3_; subst f4_; subst f5_))
   refine hK.out _ _ ⟨(blk_cell BK231.out 0).trans rfl, (blk_cell BK231.out 1).trans rfl⟩ (fun hHeld => ?_)
   clear hK K; refine norm_ (a' := ?_) ?_ ?_
   rotate_left
   ·
    show Act.put _ (some 10) _ = _
    simp only [Act.put, sa', sb', sc', i64_w, i32_w]
    rfl
   refine pure_ (i := 6) (N := some 14) (v := ?_) (a' := ?_) #[true, true, true, true, true, true, true, true, false] rfl rfl (any_of HT_.out (by kernel_rfl)) (fun _ _ _ h => h) (Or.inl ⟨by rfl, ?_⟩) ?_ ?_
   rotate_left
   ·
    intro w'; go_simp; with_reducible rfl
   rotate_left
   ·
    simp only [Act.put, sa', sb', sc', i64_w, i32_w]
    rfl
   exact norm_ (by simp only [putAll, Act.put, sa', sb', sc']) (hCont (.slice Ao9 t233.length co9, gb236) _ ⟨hHeld, (by (with_reducible repeat (first | apply ra' | apply rn' | apply rw')); exact HO235.out), (by (with_reducible repeat (first | refine kn' ?_ _ | refine kd' ?_ | refine ka' ?_ _)); exact BK231.out), (by (with_reducible repeat (first | refine kn' ?_ _ | refine kd' ?_ | refine ka' ?_ _)); exact BK232.out), (by (with_reducible repeat (first | refine kn' ?_ _ | refine kd' ?_ | refine ka' ?_ _)); exact BK236.out), GW236.out, GE236.out, NB231_236.out, NB236_231.out, NB232_236.out, NB236_232.out, (by repeat (first | (with_reducible first | exact HB.out | apply ba' | apply bd' | apply be' | refine bs' ?_ GE231.out | refine bs' ?_ GE232.out | refine bs' ?_ GE236.out) | exact HB.out))⟩)
 rintro ⟨v234, gb236⟩ w10 ⟨hS_, h0_, h1_, h2_, h3_, h4_, h5_, h6_, h7_, h8_, h9_, h10_⟩
 have n0_ : Aside0 (Kd.R Kd.bool 4 w10 w.heap.size (fun _ => True) v234 t233) := ⟨h0_⟩
 have n1_ : Aside0 (w10.heap[gb231]? = some (.cells #[.slice A0_0 l0_0.length c0_0, .bool a0_1] 38 (0, 0))) := ⟨h1_⟩
 have n2_ : Aside0 (w10.heap[gb232]? = some (.cells #[.slice none 0 0, .bool false] 38 (0, 0))) := ⟨h2_⟩
 have n3_ : Aside0 (w10.heap[gb236]? = some (.cells #[.slice none 0 0, .bool false] 38 (0, 0))) := ⟨h3_⟩
 have n4_ : Aside0 (w.heap.size ≤ gb236) := ⟨h4_⟩
 have n5_ : Aside0 (w.heap.size ≤ gb236) := ⟨h5_⟩
 have n6_ : Aside0 (gb231 ≠ gb236) := ⟨h6_⟩
 have n7_ : Aside0 (gb236 ≠ gb231) := ⟨h7_⟩
 have n8_ : Aside0 (gb232 ≠ gb236) := ⟨h8_⟩
 have n9_ : Aside0 (gb236 ≠ gb232) := ⟨h9_⟩
 have n10_ : Aside0 (Below w.heap.size w w10) := ⟨h10_⟩
 clear BK231; clear BK232; clear HB; clear h0_ h1_ h2_ h3_ h4_ h5_ h6_ h7_ h8_ h9_ h10_; have HO235 := n0_; have BK231 := n1_; have BK232 := n2_; have BK236 := n3_; have GW236 := n4_; have GE236 := n5_; have NB231_236 := n6_; have NB236_231 := n7_; have NB232_236 := n8_; have NB236_232 := n9_; have HB := n10_; clear n0_ n1_ n2_ n3_ n4_ n5_ n6_ n7_ n8_ n9_ n10_; have hHeld : w10.cell? ⟨gb231, 0, none⟩ = some (.slice A0_0 l0_0.length c0_0) ∧ w10.cell? ⟨gb231, 1, none⟩ = some (.bool a0_1) := hS_
 obtain ⟨Ao11, co11, eo11⟩ := Kd.R_slice HO235.out
 (first | subst eo11 | (injection eo11 with f1_ f2_ f3_; have f4_ := f1_.symm; have f5_ := f3_.symm; clear f1_ f2_ f3_; subst f4_; subst f5_))
 refine norm_ (a' := ?_) ?_ ?_
 rotate_left
 ·
  simp only [putAll, Act.put, sa', sb', sc']
  rfl
 refine one_ (i := 8) (N := none) #[true, true, true, true, true, true, true, true, true] rfl rfl (one_of HT_.out (by kernel_rfl)) (by decide) (fun K hK => ?_)
 have hs12 : w10.cell? ⟨gb236, 0, none⟩ = some (.slice none 0 0) := (blk_cell BK236.out 0).trans rfl
 have hfs12 := blk_frozen BK236.out 0
 have hns12_0 := NB231_236.out
 have hns12_1 := NB232_236.out
 have hms12_0 := NB236_231.out
 have hms12_1 := NB236_232.out
 have hs13 : w10.cell? ⟨gb236, 1, none⟩ = some (.bool false) := (blk_cell BK236.out 1).trans rfl
 have hfs13 := blk_frozen BK236.out 1
 have hns13_0 := NB231_236.out
 have hns13_1 := NB232_236.out
 have hms13_0 := NB236_231.out
 have hms13_1 := NB236_232.out
 refine skip_ (w1 := ?_) (by rfl) rfl ?_ ?_
 rotate_left
 ·
  go_simp; rfl
 refine hK.out _ _ ⟨((cell_far (p := ⟨gb236, _, none⟩) NB231_236.out _).trans (((cell_far (p := ⟨gb236, _, none⟩) NB231_236.out _).trans (hHeld.1)))), ((cell_far (p := ⟨gb236, _, none⟩) NB231_236.out _).trans (((cell_far (p := ⟨gb236, _, none⟩) NB231_236.out _).trans (hHeld.2))))⟩ (fun hHeld => ?_)
 clear hK K; refine done_ (done_of HT_.out (by kernel_rfl)) ?_
 try go_wp2
 go_loopg [17] k (fun kq v17 w' => ∃ (x17_1 : Int) (x237000_1 : List Bool) (u237000 : Value), v17 = .int .i64 x17_1 ∧ Aside0 (impl_State_moved.l0 kq l1 (l1.length : Int) x17_1 x237000_1 (!a0_1) = some (r1, r2)) ∧ Aside0 (kq ≤ k) ∧ Aside0 (Kd.R Kd.bool 4 w' w.heap.size (fun _ => True) u237000 x237000_1) ∧ Aside0 (w'.heap[gb231]? = some (.cells #[(.slice A0_0 l0_0.length c0_0), .bool a0_1] 38 (0, 0))) ∧ Aside0 (w'.heap[gb232]? = some (.cells #[(.slice none 0 0), .bool false] 38 (0, 0))) ∧ Aside0 (w'.heap[gb236]? = some (.cells #[u237000, .bool (!a0_1)] 38 (0, 0))) ∧ Aside0 (Below w.heap.size w w'))
 case atStart => exact ⟨(0), (t233), (.slice Ao11 t233.length co11), (by first | rfl | (simp; done) | (simp [*]; done)), H', ⟨Nat.le_refl _⟩, ⟨by (with_reducible repeat (first | apply ra' | apply rn' | apply rw')); exact Kd.R_mono (Kd.R_far (p := ⟨gb236, 1, none⟩) (Kd.R_far (p := ⟨gb236, 0, none⟩) (Kd.R_types HO235.out BK236.out (by decide)) (fun _ hk => hk.2) (.slice Ao11 t233.length co11)) (fun _ hk => hk.2) (.bool (!a0_1))) (fun _ hk => trivial)⟩, ⟨by (with_reducible repeat (first | refine kn' ?_ _ | refine kd' ?_ | refine ka' ?_ _)); refine blk_far ?_ NB231_236.out _; (with_reducible repeat (first | refine kn' ?_ _ | refine kd' ?_ | refine ka' ?_ _)); refine blk_far ?_ NB231_236.out _; (with_reducible repeat (first | refine kn' ?_ _ | refine kd' ?_ | refine ka' ?_ _)); exact BK231.out⟩, ⟨by (with_reducible repeat (first | refine kn' ?_ _ | refine kd' ?_ | refine ka' ?_ _)); refine blk_far ?_ NB232_236.out _; (with_reducible repeat (first | refine kn' ?_ _ | refine kd' ?_ | refine ka' ?_ _)); refine blk_far ?_ NB232_236.out _; (with_reducible repeat (first | refine kn' ?_ _ | refine kd' ?_ | refine ka' ?_ _)); exact BK232.out⟩, ⟨by (with_reducible repeat (first | refine kn' ?_ _ | refine kd' ?_ | refine ka' ?_ _)); refine blk_put (cs := #[.slice Ao11 t233.length co11, .bool false]) ?_ 1 _ rfl; (with_reducible repeat (first | refine kn' ?_ _ | refine kd' ?_ | refine ka' ?_ _)); refine blk_put (cs := #[.slice none 0 0, .bool false]) ?_ 0 _ rfl; (with_reducible repeat (first | refine kn' ?_ _ | refine kd' ?_ | refine ka' ?_ _)); exact BK236.out⟩, ⟨by repeat (first | (with_reducible first | exact HB.out | apply ba' | apply bd' | apply be' | refine bs' ?_ GE231.out | refine bs' ?_ GE232.out | refine bs' ?_ GE236.out) | exact HB.out)⟩⟩
 case round =>
  clear H'; try clear c1
  try clear p2
  try clear c6
  try clear c9
  obtain ⟨x17_1, x237000_1, u237000, rfl, HA, HK1, HO_237000, BK231, BK232, BK236, HB⟩ := hrel
  cases gk with
  | zero => exact absurd HA.out (by simp [impl_State_moved.l0])
  | succ k1 =>
   have H := HA.out
   clear HA; simp only [impl_State_moved.l0] at H
   by_cases c14 : x17_1 < (l1.length : Int)
   ·
    rw [if_pos c14] at H; have c14b0 : decide (x17_1 < (l1.length : Int)) = true := decide_eq_true c14
    clear c14; by_cases c15 : 0 ≤ x17_1
    ·
     rw [if_pos c15] at H; have c15b0 : decide (0 ≤ x17_1) = true := decide_eq_true c15
     clear c15; by_cases c16 : x17_1 < (l1.length : Int)
     ·
      rw [if_pos c16] at H; have c16b0 : decide (x17_1 < (l1.length : Int)) = true := decide_eq_true c16
      clear c16; by_cases c17 : 0 ≤ (rd l1 x17_1)
      ·
       rw [if_pos c17] at H; have c17b0 : decide (0 ≤ (rd l1 x17_1)) = true := decide_eq_true c17
       clear c17; by_cases c18 : (rd l1 x17_1) < (x237000_1.length : Int)
       ·
        rw [if_pos c18] at H; have c18b0 : decide ((rd l1 x17_1) < (x237000_1.length : Int)) = true := decide_eq_true c18
        clear c18; obtain ⟨y238, hy238⟩ : ∃ y_ : List Bool, y_ = (x237000_1.set ((rd l1 x17_1) : Int).toNat (!a0_1)) := ⟨_, rfl⟩
        replace H : (impl_State_moved.l0 k1 l1 (l1.length : Int) (wrap64 (x17_1 + 1)) y238 (!a0_1)) = some (r1, r2) := by first | (rw [hy238]; with_reducible exact H) | (have H2_ := (Option.bind_some _ _).symm.trans H; rw [hy238]; with_reducible exact H2_) | (have H2_ := (Option.bind_some _ _).symm.trans H; with_reducible exact H2_) | with_reducible exact H | (rw [hy238]; exact H) | exact H
        have Ny238 := am' hy238
        clear hy238; have H' := am' H
        clear H; have p237 : 0 ≤ (x17_1 : Int) := of_decide_eq_true (by first | (with_reducible assumption) | assumption)
        have q237 : x17_1 < (l1.length : Int) := of_decide_eq_true (by first | (with_reducible assumption) | assumption)
        obtain ⟨ad237, e237, hx237_0⟩ := Kd.at_int HR1.out x17_1 p237 q237
        cases e237
        replace hx237_0 := (HB.out.cell (bl' w _ hx237_0)).trans hx237_0
        replace p237 := eq_true p237
        replace q237 := eq_true q237
        have hnb20 := NB236_231.out
        have hnc20 := NB231_236.out
        have hnb21 := NB236_232.out
        have hnc21 := NB232_236.out
        have hcz22_0 : wr.cell? ⟨gb236, 0, none⟩ = some (u237000) := (blk_cell BK236.out 0).trans rfl
        have hcz22_1 : wr.cell? ⟨gb236, 1, none⟩ = some (.bool (!a0_1)) := (blk_cell BK236.out 1).trans rfl
        have hfz22_0 := blk_frozen BK236.out 0
        have hfz22_1 := blk_frozen BK236.out 1
        have p19 : 0 ≤ ((rd l1 x17_1) : Int) := of_decide_eq_true (by first | (with_reducible assumption) | assumption)
        have q19 : ((rd l1 x17_1) : Int) < ((x237000_1.length : Int) : Int) := of_decide_eq_true (by first | (with_reducible assumption) | assumption)
        obtain ⟨go19, co19, eo19, gb19, gl19, cl19, HG19⟩ := Kd.R_form HO_237000.out (by omega)
        (first | cases eo19 | (injection eo19 with ea_ en_ ec_; (first | subst ea_ | (injection ea_ with ea_; subst ea_)); subst ec_; clear en_))
        have GB19 := am' gb19
        have GG19 := am' HG19
        clear gb19 gl19 HG19; obtain ⟨hx19_0, hf19_0⟩ := Kd.R_celln false HO_237000.out ((rd l1 x17_1) : Int) p19 q19
        replace p19 := eq_true p19
        replace q19 := eq_true q19
        have HP23 := Kd.R_putg HO_237000.out ((rd l1 x17_1) : Int) (!a0_1)
        go_wp2_with (first | ((with_reducible refine gate_store (t := 4) (p := 26) rfl ?_); refine store_event (t := 4) (p := 26) (v := ?vo_w24) (w1 := (wr.setCell ⟨go19, ((rd l1 x17_1) : Int).toNat, none⟩ (.bool (!a0_1)))) ?hg ?ho ?hn ?hr ?_; (case ho => rfl); (case hg => rfl); (case hn => rfl); (case hr => first | (go_simp; done) | (go_simp; rfl)); intro w24 hw; have hg : wr.grownBy w24 (some go19) := (by rw [hw]; exact HP23.2); have hp_ : Kd.R Kd.bool 4 w24 w.heap.size (fun _ => True) (.slice (some ⟨go19, 0, none⟩) x237000_1.length co19) y238 := (by rw [hw, Ny238.out]; exact HP23.1); clear HP23; have n0_ := am' (hp_); have n1_ := am' (blk_grown (g := gb231) (o := .cells #[.slice A0_0 l0_0.length c0_0, .bool a0_1] 38 (0, 0)) (by (with_reducible repeat (first | refine kn' ?_ _ | refine kd' ?_ | refine ka' ?_ _)); exact BK231.out) hg (Kd.R_ne HO_237000.out BK231.out (by decide))); have n2_ := am' (blk_grown (g := gb232) (o := .cells #[.slice none 0 0, .bool false] 38 (0, 0)) (by (with_reducible repeat (first | refine kn' ?_ _ | refine kd' ?_ | refine ka' ?_ _)); exact BK232.out) hg (Kd.R_ne HO_237000.out BK232.out (by decide))); have n3_ := am' (blk_grown (g := gb236) (o := .cells #[.slice (some ⟨go19, 0, none⟩) x237000_1.length co19, .bool (!a0_1)] 38 (0, 0)) (by (with_reducible repeat (first | refine kn' ?_ _ | refine kd' ?_ | refine ka' ?_ _)); exact BK236.out) hg (Kd.R_ne HO_237000.out BK236.out (by decide))); have n4_ := am' ((by rw [hw]; exact bs' (HB.out) GB19.out : Below w.heap.size w w24)); clear HO_237000; clear BK231; clear BK232; clear BK236; clear HB; have HO_237000 := n0_; have BK231 := n1_; have BK232 := n2_; have BK236 := n3_; have HB := n4_; clear n0_ n1_ n2_ n3_ n4_; clear hg hw hp_))
        go_roundg k1
        case measure => have := HK1.out; omega
        case rel => exact ⟨(wrap64 (x17_1 + 1)), (y238), (.slice (some ⟨go19, 0, none⟩) x237000_1.length co19), (by first | rfl | (simp; done) | (simp [*]; done)), H', ⟨by have := HK1.out; omega⟩, ⟨by (with_reducible repeat (first | apply ra' | apply rn' | apply rw')); exact HO_237000.out⟩, ⟨by (with_reducible repeat (first | refine kn' ?_ _ | refine kd' ?_ | refine ka' ?_ _)); exact BK231.out⟩, ⟨by (with_reducible repeat (first | refine kn' ?_ _ | refine kd' ?_ | refine ka' ?_ _)); exact BK232.out⟩, ⟨by (with_reducible repeat (first | refine kn' ?_ _ | refine kd' ?_ | refine ka' ?_ _)); exact BK236.out⟩, ⟨by repeat (first | (with_reducible first | exact HB.out | apply ba' | apply bd' | apply be' | refine bs' ?_ GE231.out | refine bs' ?_ GE232.out | refine bs' ?_ GE236.out) | exact HB.out)⟩⟩
       ·
        rw [if_neg c18] at H; exact absurd H (by simp)
      ·
       rw [if_neg c17] at H; exact absurd H (by simp)
     ·
      rw [if_neg c16] at H; exact absurd H (by simp)
    ·
     rw [if_neg c15] at H; exact absurd H (by simp)
   ·
    rw [if_neg c14] at H; have c14b0 : decide (x17_1 < (l1.length : Int)) = false := decide_eq_false c14
    clear c14; simp only [Option.some.injEq, Prod.mk.injEq] at H
    obtain ⟨rfl, rfl⟩ := H
    have hnb25 := NB236_231.out
    have hnc25 := NB231_236.out
    have hnb26 := NB236_232.out
    have hnc26 := NB232_236.out
    have hcz27_0 : wr.cell? ⟨gb236, 0, none⟩ = some (u237000) := (blk_cell BK236.out 0).trans rfl
    have hcz27_1 : wr.cell? ⟨gb236, 1, none⟩ = some (.bool (!a0_1)) := (blk_cell BK236.out 1).trans rfl
    have hfz27_0 := blk_frozen BK236.out 0
    have hfz27_1 := blk_frozen BK236.out 1
    obtain ⟨Ao28, co28, eo28⟩ := Kd.R_slice HO_237000.out
    subst eo28; have hnb29 := NB232_231.out
    have hnc29 := NB231_232.out
    have hcz30_0 : wr.cell? ⟨gb232, 0, none⟩ = some (.slice none 0 0) := (blk_cell BK232.out 0).trans rfl
    have hcz30_1 : wr.cell? ⟨gb232, 1, none⟩ = some (.bool false) := (blk_cell BK232.out 1).trans rfl
    have hfz30_0 := blk_frozen BK232.out 0
    have hfz30_1 := blk_frozen BK232.out 1
    go_wp2
    refine bodyPost_ret (results_cell_row rfl _ _ gb232 38 #[.slice Ao28 x237000_1.length co28, .bool (!a0_1)] (0, 0) _ rfl (by (with_reducible repeat (first | refine kn' ?_ _ | refine kd' ?_ | refine ka' ?_ _)); refine blk_put (cs := #[.slice Ao28 x237000_1.length co28, .bool false]) ?_ 1 _ rfl; (with_reducible repeat (first | refine kn' ?_ _ | refine kd' ?_ | refine ka' ?_ _)); refine blk_put (cs := #[.slice none 0 0, .bool false]) ?_ 0 _ rfl; (with_reducible repeat (first | refine kn' ?_ _ | refine kd' ?_ | refine ka' ?_ _)); exact BK232.out) Try.underlying38 rfl (by kernel_rfl)) rfl ?_
    exact ⟨_, by first | rfl | (simp [errW_none, errW_some] <;> rfl) | (simp [*, errW_none, errW_some] <;> rfl), by (with_reducible repeat (first | apply ra' | apply rn' | apply rw')); exact Kd.R_mono (Kd.R_far (p := ⟨gb232, 1, none⟩) (Kd.R_far (p := ⟨gb232, 0, none⟩) (Kd.R_types HO_237000.out BK232.out (by decide)) (fun _ hk => hk.2) (.slice Ao28 x237000_1.length co28)) (fun _ hk => hk.2) (.bool (!a0_1))) (fun _ hk => trivial), by repeat (first | (with_reducible first | exact HB.out | apply ba' | apply bd' | apply be' | refine bs' ?_ GE231.out | refine bs' ?_ GE232.out | refine bs' ?_ GE236.out) | exact HB.out)⟩
def bits_Mul64.f (a0 : Int) (a1 : Int) : Option (Int × Int) := some (IntKind.u64.wrap ((IntKind.u64.wrap ((IntKind.u64.wrap ((a0 / 4294967296) * (a1 / 4294967296))) + ((IntKind.u64.wrap ((IntKind.u64.wrap ((a0 / 4294967296) * (Go.bits .and .u64 a1 4294967295))) + ((IntKind.u64.wrap ((Go.bits .and .u64 a0 4294967295) * (Go.bits .and .u64 a1 4294967295))) / 4294967296))) / 4294967296))) + ((IntKind.u64.wrap ((Go.bits .and .u64 (IntKind.u64.wrap ((IntKind.u64.wrap ((a0 / 4294967296) * (Go.bits .and .u64 a1 4294967295))) + ((IntKind.u64.wrap ((Go.bits .and .u64 a0 4294967295) * (Go.bits .and .u64 a1 4294967295))) / 4294967296))) 4294967295) + (IntKind.u64.wrap ((Go.bits .and .u64 a0 4294967295) * (a1 / 4294967296))))) / 4294967296)), IntKind.u64.wrap (a0 * a1))
set_option maxHeartbeats 8000000 in
set_option maxRecDepth 100000 in
theorem bits_Mul64.calls (a0 : Int) (a1 : Int) (r1 : Int) (r2 : Int) (w : World) (h : bits_Mul64.f a0 a1 = some (r1, r2)) :
  Calls Try.prog 124 #[.int .u64 a0, .int .u64 a1] w fun e w' => e = .returned (.tuple #[.int .u64 r1, .int .u64 r2]) ∧ Drawn0 w w' := by
 have H : (some (IntKind.u64.wrap ((IntKind.u64.wrap ((IntKind.u64.wrap ((a0 / 4294967296) * (a1 / 4294967296))) + ((IntKind.u64.wrap ((IntKind.u64.wrap ((a0 / 4294967296) * (Go.bits .and .u64 a1 4294967295))) + ((IntKind.u64.wrap ((Go.bits .and .u64 a0 4294967295) * (Go.bits .and .u64 a1 4294967295))) / 4294967296))) / 4294967296))) + ((IntKind.u64.wrap ((Go.bits .and .u64 (IntKind.u64.wrap ((IntKind.u64.wrap ((a0 / 4294967296) * (Go.bits .and .u64 a1 4294967295))) + ((IntKind.u64.wrap ((Go.bits .and .u64 a0 4294967295) * (Go.bits .and .u64 a1 4294967295))) / 4294967296))) 4294967295) + (IntKind.u64.wrap ((Go.bits .and .u64 a0 4294967295) * (a1 / 4294967296))))) / 4294967296)), IntKind.u64.wrap (a0 * a1))) = some (r1, r2) := h
 clear h; simp only [Option.some.injEq, Prod.mk.injEq] at H
 obtain ⟨rfl, rfl⟩ := H
 go_enter Try.func124, Try.ntmps124
 go_wp2
 go_ret2
 exact ⟨by first | rfl | (simp; done) | (simp [*]; done), by repeat (first | exact Drawn0.refl _ | apply Drawn0.step)⟩
def bits_Mul.f (a0 : Int) (a1 : Int) : Option (Int × Int) := (bits_Mul64.f a0 a1).bind fun bt239 => (some (bt239.1, bt239.2))
set_option maxHeartbeats 8000000 in
set_option maxRecDepth 100000 in
theorem bits_Mul.calls (a0 : Int) (a1 : Int) (r1 : Int) (r2 : Int) (w : World) (h : bits_Mul.f a0 a1 = some (r1, r2)) :
  Calls Try.prog 116 #[.int .u64 a0, .int .u64 a1] w fun e w' => e = .returned (.tuple #[.int .u64 r1, .int .u64 r2]) ∧ Drawn0 w w' := by
 have H : ((bits_Mul64.f a0 a1).bind fun bt239 => (some (bt239.1, bt239.2))) = some (r1, r2) := h
 clear h; replace H := Option.bind_eq_some_iff.mp H
 obtain ⟨⟨t239, t240⟩, A30, H⟩ := H
 replace H : (some (t239, t240)) = some (r1, r2) := H
 have A3 := am' A30
 clear A30; simp only [Option.some.injEq, Prod.mk.injEq] at H
 obtain ⟨rfl, rfl⟩ := H
 go_enter Try.func116, Try.ntmps116
 go_wp2_with (first | ((with_reducible refine gate_callee (f := 124) rfl ?_); refine goesL_ (some 25) rfl rfl Try.func124 (by kernel_rfl) rfl #[.int .u64 a0, .int .u64 a1] rfl (by (try simp only [List.map_toArray, List.map_cons, List.map_nil]); first | done | rfl | (simp only [List.length_drop, List.length_take]; rfl)) ?_; (with_reducible refine (bits_Mul64.calls a0 a1 t239 t240 _ A3.out).mono ?_); rintro e w' ⟨rfl, ⟨nd, rfl⟩⟩; refine ⟨_, rfl, ?_⟩))
 go_ret2
 exact ⟨by first | rfl | (simp; done) | (simp [*]; done), by repeat (first | exact Drawn0.refl _ | apply Drawn0.step)⟩
theorem mulOne : ∀ m : Nat, m ≤ 8 → bits_Mul.f 1 (m : Int) = some (0, (m : Int))
 | 0, _ => by kernel_rfl
 | 1, _ => by kernel_rfl
 | 2, _ => by kernel_rfl
 | 3, _ => by kernel_rfl
 | 4, _ => by kernel_rfl
 | 5, _ => by kernel_rfl
 | 6, _ => by kernel_rfl
 | 7, _ => by kernel_rfl
 | 8, _ => by kernel_rfl
theorem splice_rep (n m : Nat) (v z : Value) (q : Nat) (hq : n + q ≤ m) : splice (List.replicate n v ++ List.replicate (m - n) z) n (List.replicate q v) = List.replicate (n + q) v ++ List.replicate (m - (n + q)) z := by
 unfold splice
 have e1 : (List.replicate n v ++ List.replicate (m - n) z).take n = List.replicate n v := by simp
 have e2 : (List.replicate n v ++ List.replicate (m - n) z).drop (n + (List.replicate q v).length) = List.replicate (m - (n + q)) z := by
  rw [List.length_replicate, List.drop_append, List.length_replicate, List.drop_replicate, List.drop_replicate]
  have a1 : n - (n + q) = 0 := by omega
  have a2 : m - n - (n + q - n) = m - (n + q) := by omega
  rw [a1, a2]
  rfl
 rw [e1, e2, ← List.append_assoc, List.replicate_append_replicate]
theorem made_rep (z : Value) (m : Nat) : madeCells #[z] m = (List.replicate m z).toArray := by
 apply Array.ext
 ·
  simp [madeCells]
 ·
  intro i h1 h2; simp [madeCells, Nat.mod_one]
theorem rep_one (n : Nat) (b : Bool) : ∀ u ∈ List.replicate n (Value.bool b), u.oneCell' = true := fun u hu => by rw [List.eq_of_mem_replicate hu]; rfl
theorem rep_cells {w w1 : World} {ad : Addr} {v : Value} (hx : w.cell? (ad.add 0) = some v) (m : Nat) (hb : Below w.heap.size w w1) (o : Obj) : ∀ j u, (List.replicate (min 1 m) v)[j]? = some u → (w1.alloc o).cell? (ad.add j) = some u := by
 intro j u hu; have hb2 : Below w.heap.size w (w1.alloc o) := ba' hb o
 have hj : j < min 1 m := by have := (List.getElem?_eq_some_iff.1 hu).1; simpa using this
 obtain rfl : j = 0 := by omega
 rw [List.getElem?_replicate, if_pos hj] at hu
 cases hu
 exact (hb2.cell (bl' w _ hx)).trans hx
theorem rep_first {w : World} {g m t : Nat} {v z : Value} (h : w.heap[g]? = some (.cells (splice (List.replicate m z) 0 (List.replicate (min 1 m) v)).toArray t (0, 0))) : w.heap[g]? = some (.cells (List.replicate (min 1 m) v ++ List.replicate (m - min 1 m) z).toArray t (0, 0)) := by
 have := splice_rep 0 m v z (min 1 m) (by omega)
 simp only [List.replicate_zero, List.nil_append, Nat.sub_zero, Nat.zero_add] at this
 rwa [this] at h
theorem rep_next {w : World} {g m n t : Nat} {v z : Value} (h : w.heap[g]? = some (.cells (splice (List.replicate n v ++ List.replicate (m - n) z) n (List.replicate (min n (m - n)) v)).toArray t (0, 0))) (hn : n ≤ m := by omega) : w.heap[g]? = some (.cells (List.replicate (n + min n (m - n)) v ++ List.replicate (m - (n + min n (m - n))) z).toArray t (0, 0)) := by
 rwa [splice_rep n m v z _ (by omega)] at h
theorem rep_self {w : World} {g m n t : Nat} {v z : Value} (h : w.heap[g]? = some (.cells (List.replicate n v ++ List.replicate (m - n) z).toArray t (0, 0))) (hn : n ≤ m) : ∀ j u, (List.replicate (min n (m - n)) v)[j]? = some u → w.cell? ((⟨g, 0, none⟩ : Addr).add j) = some u := by
 intro j u hu; have hj : j < min n (m - n) := by have := (List.getElem?_eq_some_iff.1 hu).1; simpa using this
 rw [List.getElem?_replicate, if_pos hj] at hu
 cases hu
 have ha : (⟨g, 0, none⟩ : Addr).add j = ⟨g, j, none⟩ := by unfold Addr.add; split <;> simp_all
 rw [ha, blk_cell h j, List.getElem?_toArray, List.getElem?_append_left (by simp; omega), List.getElem?_replicate, if_pos (by omega)]
theorem rep_row {w : World} {base m : Nat} {v : Bool} (hm : m ≤ 8) (h : w.heap[base]? = some (.cells (List.replicate m (Value.bool v) ++ List.replicate (m - m) (Value.bool false)).toArray 4 (0, 0))) : Kd.R Kd.bool 4 w base (fun _ => True) (.slice (some ⟨base, 0, none⟩) m m) (List.replicate m v) := by
 refine Kd.R_of_own ?_ (fun _ _ => trivial)
 refine ⟨by simp [encs], .inr ⟨base, m, _, by simp, Nat.le_refl _, h, by simp, by unfold maxLen; omega, by simp, ?_⟩⟩
 simp [encs]
def slices_Repeat_bool_bool.f (l0 : List Bool) (a1 : Int) : Option (List Bool) := if 0 ≤ a1 ∧ a1 ≤ 8 ∧ l0.length = 1 then some (List.replicate a1.toNat (rdOf false l0 0)) else none
set_option maxHeartbeats 4000000 in
set_option maxRecDepth 100000 in
theorem repeat_calls (A0 : Option Addr) (c0 : Nat) (v : Bool) (m : Nat) (hm : m ≤ 8) (w : World) (hr0 : Kd.C Kd.bool w A0 1 [v]) :
  Calls Try.prog 97 #[.slice A0 1 c0, .int .i64 (m : Int)] w fun e w' => ∃ v0_ : Value, e = .returned (v0_) ∧ Kd.R Kd.bool 4 w' w.heap.size (fun _ => True) v0_ (List.replicate m v) ∧ Below w.heap.size w w' := by
 obtain ⟨ad, rfl, hx0⟩ := Kd.at_bool hr0 0 (by omega) (by omega)
 have hx : w.cell? (ad.add 0) = some (.bool v) := by simpa [rdOf] using hx0
 have hinfo : (Try.prog.info? 4).map (fun i => (i.zero, i.size, i.bytes)) = some (some (.bool false), 1, 1) := by kernel_rfl
 have hsz1 : (Try.prog.info? 4).map (·.size) = some 1 := by kernel_rfl
 have hmul := mulOne m hm
 have hmk := fun W : World => run_make_row' (P := Try.prog) 23 4 (.bool false) 1 Try.underlying23 hinfo rfl .i64 .i64 m (by omega) (by omega) W
 rw [made_rep (.bool false) m] at hmk
 have HX := am' hx
 have HI := am' hsz1
 have HM := am' hmul
 clear hr0 hx0 hx hinfo hsz1 hmul; have hm0 : (0 : Int) ≤ (m : Int) := by omega
 have hm8 : (m : Int) ≤ 8 := by omega
 go_enter Try.func97, Try.ntmps97
 go_wp2_with (first | (go_at_call 116; refine (bits_Mul.calls 1 m 0 m _ HM.out).mono ?_; rintro e w' ⟨rfl, ⟨nd, rfl⟩⟩) | ((with_reducible refine gate_builtin (b := .copy) (xs := #[.tmp 31, .tmp 32]) rfl ?_); refine wpList_copy_splice rfl (.tmp 31) (.tmp 32) 23 23 rfl 4 Try.underlying23 HI.out (some ⟨w.heap.size, 0, none⟩) (some ad) m m 1 c0 rfl rfl w.heap.size 0 (List.replicate m (.bool false)) 4 ?hg1 (List.replicate (min 1 m) (.bool v)) ?hn1 ?hp1 ?hf1 ?ho1 w.heap.size w ?hb1 (Nat.le_refl _) ?_; (case hg1 => exact heap_alloc_new (w.drewN nd) _); (case hn1 => simp [Nat.min_def]); (case hp1 => exact fun hp => ⟨rfl, ad, rfl, rep_cells HX.out m (bd' (Below.refl _ _) nd) _⟩); (case hf1 => simp; omega); (case ho1 => exact rep_one _ _); (case hb1 => exact ba' (bd' (Below.refl _ _) nd) _); intro w1 hc1 hb1; have HC1 := am' (rep_first hc1.out); have HB1 := am' hb1; clear hc1 hb1))
 go_loopg [8] m (fun gg s8 wr => ∃ n : Nat, s8 = .int .i64 (n : Int) ∧ min 1 m ≤ n ∧ n ≤ m ∧ m - n ≤ gg ∧ Aside0 (wr.heap[w.heap.size]? = some (.cells (List.replicate n (Value.bool v) ++ List.replicate (m - n) (Value.bool false)).toArray 4 (0, 0))) ∧ Aside0 (Below w.heap.size w wr))
 case atStart => exact ⟨min 1 m, by simp, Nat.le_refl _, Nat.min_le_right _ _, by omega, HC1, HB1⟩
 case round =>
  obtain ⟨n, rfl, h1n, hnm, hng, HC, HB⟩ := hrel
  clear HC1 HB1; by_cases hlt : n < m
  ·
   have d0 : decide ((n : Int) < (m : Int)) = true := by simp; omega
   have q0 : (0 ≤ (n : Int)) = True := by simp
   have q1 : ((n : Int) ≤ (m : Int)) = True := by simp; omega
   go_wp2
   go_region_law (refine step_copy_splice rfl (.tmp 41) (.tmp 44) 23 23 rfl 4 Try.underlying23 HI.out (some ⟨w.heap.size, n, none⟩) (some ⟨w.heap.size, 0, none⟩) (m - n) (m - n) n m ?hd ?hs w.heap.size n (List.replicate n (Value.bool v) ++ List.replicate (m - n) (Value.bool false)) 4 ?hg1 (List.replicate (min n (m - n)) (Value.bool v)) ?hn1 ?hp1 ?hf1 (rep_one _ _) w.heap.size w ?hb1 (Nat.le_refl _) ?_; (case hd => go_simp; omega); (case hs => go_simp); (case hg1 => exact HC.out); (case hn1 => simp [Nat.min_def]); (case hp1 => exact fun hp => ⟨rfl, _, rfl, rep_self HC.out hnm⟩); (case hf1 => simp; omega); (case hb1 => exact bd' HB.out 1); intro w1 hc1 hb1; have HC1 := am' (rep_next hc1.out); have HB1 := am' hb1; clear hc1 hb1)
   go_wp2
   go_roundg (m - (n + min n (m - n)))
   case measure => omega
   case rel => exact ⟨n + min n (m - n), by (show Value.int _ _ = Value.int _ _); congr 1; exact (i64_w _).trans ((wr_id (a := (n : Int) + (min n (m - n) : Nat)) (by omega) (by omega)).trans (Int.natCast_add _ _).symm), by omega, by omega, by omega, HC1, HB1⟩
  ·
   have d0 : decide ((n : Int) < (m : Int)) = false := by simp; omega
   go_wp2
   go_ret
   obtain rfl : n = m := by omega
   refine ⟨_, rfl, ?_, HB.out⟩
   exact rep_row hm HC.out
theorem slices_Repeat_bool_bool.calls (A0 : Option Addr) (c0 : Nat) (l0 : List Bool) (a1 : Int) (r : List Bool) (w : World) (hr0 : Kd.C Kd.bool w A0 l0.length l0) (hc0 : l0.length ≤ c0) (h : slices_Repeat_bool_bool.f l0 a1 = some r) :
  Calls Try.prog 97 #[.slice A0 l0.length c0, .int .i64 a1] w fun e w' => ∃ v0_ : Value, e = .returned (v0_) ∧ Kd.R Kd.bool 4 w' w.heap.size (fun _ => True) v0_ r ∧ Below w.heap.size w w' := by
 unfold slices_Repeat_bool_bool.f at h
 by_cases hc : 0 ≤ a1 ∧ a1 ≤ 8 ∧ l0.length = 1
 ·
  rw [if_pos hc] at h; obtain ⟨h0, h8, h1⟩ := hc
  obtain rfl := Option.some.inj h
  obtain ⟨m, rfl⟩ := Int.eq_ofNat_of_zero_le h0
  match l0, h1 with
  | [v], _ => exact repeat_calls A0 c0 v m (by omega) w hr0
 ·
  rw [if_neg hc] at h; cases h
def impl_allAt.f (a0 : Int) (a1 : Bool) : Option (List Bool × Bool) := (slices_Repeat_bool_bool.f (([a1] : List Bool)) a0).bind fun t245 => (some (t245, a1))
set_option maxHeartbeats 8000000 in
set_option maxRecDepth 100000 in
theorem impl_allAt.calls (a0 : Int) (a1 : Bool) (r1 : List Bool) (r2 : Bool) (w : World) (h : impl_allAt.f a0 a1 = some (r1, r2)) :
  Calls Try.prog 70 #[.int .i64 a0, .bool a1] w fun e w' => ∃ v0_ : Value, e = .returned (.agg #[v0_, .bool r2]) ∧ Kd.R Kd.bool 4 w' w.heap.size (fun _ => True) v0_ r1 ∧ Below w.heap.size w w' := by
 have hu38 := Try.underlying38
 have HB := am' (Below.refl w.heap.size w)
 have H : ((slices_Repeat_bool_bool.f (([a1] : List Bool)) a0).bind fun t245 => (some (t245, a1))) = some (r1, r2) := h
 clear h; obtain ⟨y242, hy242⟩ : ∃ y_ : List Bool, y_ = (([a1] : List Bool)) := ⟨_, rfl⟩
 replace H : ((slices_Repeat_bool_bool.f y242 a0).bind fun t245 => (some (t245, a1))) = some (r1, r2) := by first | (rw [hy242]; with_reducible exact H) | (have H2_ := (Option.bind_some _ _).symm.trans H; rw [hy242]; with_reducible exact H2_) | (have H2_ := (Option.bind_some _ _).symm.trans H; with_reducible exact H2_) | with_reducible exact H | (rw [hy242]; exact H) | exact H
 have Ny242 := am' hy242
 clear hy242; replace H := Option.bind_eq_some_iff.mp H
 obtain ⟨t245, A30, H⟩ := H
 replace H : (some (t245, a1)) = some (r1, r2) := H
 have A3 := am' A30
 clear A30; simp only [Option.some.injEq, Prod.mk.injEq] at H
 obtain ⟨rfl, rfl⟩ := H
 go_enter Try.func70, Try.ntmps70
 go_wp2_with (first | ((with_reducible refine gate_dst (N := 4) rfl ?_); refine box_event ?hg (N := 4) ?hd (cs := #[.slice none 0 0, .bool false]) (t := 38) ?hr ?_; (case hd => rfl); (case hg => rfl); (case hr => first | (go_simp; done) | (go_simp; rfl)); intro gb241 hg w4 hbox hb; have n0_ := am' (below_step (by repeat (first | (with_reducible first | exact HB.out | apply ba' | apply bd' | apply be') | exact HB.out)) hb); have n1_ := am' (hbox); have n2_ := am' ((by rw [hg]; exact (below_size (by repeat (first | (with_reducible first | exact HB.out | apply ba' | apply bd' | apply be') | exact HB.out))) : w.heap.size ≤ gb241)); have n3_ := am' ((by rw [hg]; exact (below_size (by repeat (first | (with_reducible first | exact HB.out | apply ba' | apply bd' | apply be') | exact HB.out))) : w.heap.size ≤ gb241)); clear HB; have HB := n0_; have BK241 := n1_; have GW241 := n2_; have GE241 := n3_; clear n0_ n1_ n2_ n3_; clear hb hbox hg) | ((with_reducible refine gate_dst (N := 6) rfl ?_); refine Kd.R_lit Kd.bool _ 4 ?hg (N := 6) ?hd (xs := ([a1] : List Bool)) (inner := [.bool a1]) (ok := fun _ => True) (okp := fun _ => True) ?hr ?hp (fun _ hk => hk) trivial (Below.refl _ _) (Nat.le_refl _) (by simp) ?_; (case hd => rfl); (case hg => rfl); (case hr => first | (go_simp; done) | (go_simp; rfl)); (case hp => exact (Reps.one (show Kd.M Kd.bool _ _ _ a1 [.bool a1] from rfl) (Reps.none _ _))); intro v243 w5 ho6 hb hg_ hnew_; clear hg_ hnew_; (first | rw [← Ny242.out] at ho6 | (simp only [Int.reduceToNat] at ho6; rw [← Ny242.out] at ho6)); have n0_ := am' (Kd.R_lower ho6 (below_size (by repeat (first | (with_reducible first | exact HB.out | apply ba' | apply bd' | apply be' | refine bs' ?_ GE241.out) | exact HB.out)))); have n1_ := am' (blk_below (g := gb241) (o := .cells #[.slice none 0 0, .bool false] 38 (0, 0)) (by (with_reducible repeat (first | refine kn' ?_ _ | refine kd' ?_ | refine ka' ?_ _)); exact BK241.out) hb); have n2_ := am' (below_step (by repeat (first | (with_reducible first | exact HB.out | apply ba' | apply bd' | apply be' | refine bs' ?_ GE241.out) | exact HB.out)) hb); clear BK241; clear HB; have HO244 := n0_; have BK241 := n1_; have HB := n2_; clear n0_ n1_ n2_; clear hb ho6; obtain ⟨Ao7, co7, eo7⟩ := Kd.R_slice HO244.out; subst eo7) | ((with_reducible refine gate_callee (f := 97) rfl ?_); refine goesL_ (some 8) rfl rfl Try.func97 (by kernel_rfl) rfl #[.slice Ao7 y242.length co7, .int .i64 a0] rfl (by (try simp only [List.map_toArray, List.map_cons, List.map_nil]); first | done | rfl | (simp only [List.length_drop, List.length_take]; rfl)) ?_; (with_reducible refine (slices_Repeat_bool_bool.calls _ _ y242 a0 t245 _ ?side1 ?side2 A3.out).mono ?_); (case side1 => repeat (first | exact (Kd.R_reads' HO244.out).2.2 | (with_reducible refine ca' ?_ _) | (with_reducible refine cn' ?_ _) | (with_reducible refine cd' ?_))); (case side2 => exact (Kd.R_reads' HO244.out).2.1); rintro e w8 ⟨v246, rfl, ho0, hb⟩; refine ⟨_, rfl, ?_⟩; have n0_ := am' (Kd.R_elder' (by (with_reducible repeat (first | apply ra' | apply rn' | apply rw')); exact HO244.out) (Kd.R_base ho0) hb); have n1_ := am' (Kd.R_lower (Kd.R_new' ho0 (Kd.R_lt (by (with_reducible repeat (first | apply ra' | apply rn' | apply rw')); exact HO244.out))) (below_size (by repeat (first | (with_reducible first | exact HB.out | apply ba' | apply bd' | apply be' | refine bs' ?_ GE241.out) | exact HB.out)))); have n2_ := am' (blk_below (g := gb241) (o := .cells #[.slice none 0 0, .bool false] 38 (0, 0)) (by (with_reducible repeat (first | refine kn' ?_ _ | refine kd' ?_ | refine ka' ?_ _)); exact BK241.out) hb); have n3_ := am' (below_step (by repeat (first | (with_reducible first | exact HB.out | apply ba' | apply bd' | apply be' | refine bs' ?_ GE241.out) | exact HB.out)) hb); clear HO244; clear BK241; clear HB; have HO244 := n0_; have HO247 := n1_; have BK241 := n2_; have HB := n3_; clear n0_ n1_ n2_ n3_; (try clear hb); (try clear hb2); (try clear hk); (try clear hi); (try clear ho0); obtain ⟨Ao9, co9, eo9⟩ := Kd.R_slice HO247.out; subst eo9; have hcz10_0 : w8.cell? ⟨gb241, 0, none⟩ = some (.slice none 0 0) := (blk_cell BK241.out 0).trans rfl; have hcz10_1 : w8.cell? ⟨gb241, 1, none⟩ = some (.bool false) := (blk_cell BK241.out 1).trans rfl; have hfz10_0 := blk_frozen BK241.out 0; have hfz10_1 := blk_frozen BK241.out 1))
 refine bodyPost_ret (results_cell_row rfl _ _ gb241 38 #[.slice Ao9 t245.length co9, .bool a1] (0, 0) _ rfl (by (with_reducible repeat (first | refine kn' ?_ _ | refine kd' ?_ | refine ka' ?_ _)); refine blk_put (cs := #[.slice Ao9 t245.length co9, .bool false]) ?_ 1 _ rfl; (with_reducible repeat (first | refine kn' ?_ _ | refine kd' ?_ | refine ka' ?_ _)); refine blk_put (cs := #[.slice none 0 0, .bool false]) ?_ 0 _ rfl; (with_reducible repeat (first | refine kn' ?_ _ | refine kd' ?_ | refine ka' ?_ _)); exact BK241.out) Try.underlying38 rfl (by kernel_rfl)) rfl ?_
 exact ⟨_, by first | rfl | (simp [errW_none, errW_some] <;> rfl) | (simp [*, errW_none, errW_some] <;> rfl), by (with_reducible repeat (first | apply ra' | apply rn' | apply rw')); exact Kd.R_mono (Kd.R_far (p := ⟨gb241, 1, none⟩) (Kd.R_far (p := ⟨gb241, 0, none⟩) (Kd.R_types HO247.out BK241.out (by decide)) (fun _ hk => hk.2) (.slice Ao9 t245.length co9)) (fun _ hk => hk.2) (.bool a1)) (fun _ hk => trivial), by repeat (first | (with_reducible first | exact HB.out | apply ba' | apply bd' | apply be' | refine bs' ?_ GE241.out) | exact HB.out)⟩
def impl_bit.f (a0 : Bool) : Option (Int) := if a0 = true then (some 1) else (some 0)
set_option maxHeartbeats 8000000 in
set_option maxRecDepth 100000 in
theorem impl_bit.calls (a0 : Bool) (r : Int) (w : World) (h : impl_bit.f a0 = some r) :
  Calls Try.prog 98 #[.bool a0] w fun e w' => e = .returned (.int .i64 r) ∧ Drawn0 w w' := by
 have H : (if a0 = true then (some 1) else (some 0)) = some r := h
 clear h; by_cases c2 : a0 = true
 ·
  subst c2; have H1 : (some 1) = some r := by rw [if_pos rfl] at H; exact H
  clear H; have H := H1; clear H1; obtain rfl := Option.some.inj H
  go_enter Try.func98, Try.ntmps98
  go_wp2
  go_ret
  exact ⟨by first | rfl | (simp; done) | (simp [*]; done), by repeat (first | exact Drawn0.refl _ | apply Drawn0.step)⟩
 ·
  replace c2 := Bool.eq_false_iff.mpr c2
  subst c2; have H1 : (some 0) = some r := by rw [if_neg (show ¬ (false = true) by decide)] at H; exact H
  clear H; have H := H1; clear H1; obtain rfl := Option.some.inj H
  go_enter Try.func98, Try.ntmps98
  go_wp2
  go_ret
  exact ⟨by first | rfl | (simp; done) | (simp [*]; done), by repeat (first | exact Drawn0.refl _ | apply Drawn0.step)⟩
end Go.Proofs.Ytikjdmiohpdnaaa.C2
