import Derived.Test.YtpobeakggacdpaaC10zx0
import Derived.Test.YtpobeakggacdpaaC10zx11
import Derived.Test.YtpobeakggacdpaaC10zAl
namespace Go.Proofs.Ytpobeakggacdpaa.C10
open Go.RowKit Go.Proofs.YtpobeakggacdpaaW.PrintWords Go.Proofs.YtpobeakggacdpaaW.PrintLast Go.Proofs.YtpobeakggacdpaaW.PrintMore Go.Proofs.Ytpobeakggacdpaa.H
attribute [local go_sem] max2_int min2_int max_two min_two max_three min_three max_four min_four
set_option linter.unusedVariables false
set_option linter.unusedSimpArgs false
mutual
def impl_Camp_after.l0 : Nat → List (List Int) → Int → Int → List Bool → Int → List Bool → Int → Option (List Bool × Int)
 | 0, _, _, _, _, _, _, _ => none
 | k + 1, x16, x17, x18, x270000, x270001, x275000, x275001 => if x18 < x17 then (if 0 ≤ x18 then (if x18 < (x16.length : Int) then (if 0 < ((rd_L2 x16 x18).length : Int) then (if 0 ≤ (rd (rd_L2 x16 x18) 0) then (if (rd (rd_L2 x16 x18) 0) < (x270000.length : Int) then ((impl_bit.f (rdOf false x270000 (rd (rd_L2 x16 x18) 0))).bind fun t278 => (impl_Camp_after.l1 k x16 x17 x18 (rd_L2 x16 x18) ((rd_L2 x16 x18).length : Int) 0 x270000 x270001 x275000 (wrap64 (x275001 + (wrap64 (1 - (wrap64 (2 * t278)))))))) else (none)) else (none)) else (none)) else (none)) else (none)) else (some (x275000, x275001))
def impl_Camp_after.l1 : Nat → List (List Int) → Int → Int → List Int → Int → Int → List Bool → Int → List Bool → Int → Option (List Bool × Int)
 | 0, _, _, _, _, _, _, _, _, _, _ => none
 | k + 1, x16, x17, x18, x36, x37, x38, x270000, x270001, x275000, x275001 => if x38 < x37 then (if 0 ≤ x38 then (if x38 < (x36.length : Int) then (if 0 ≤ (rd x36 x38) then (if (rd x36 x38) < (x270000.length : Int) then (if (rd x36 x38) < (x275000.length : Int) then (impl_Camp_after.l1 k x16 x17 x18 x36 x37 (wrap64 (x38 + 1)) x270000 x270001 (x275000.set ((rd x36 x38) : Int).toNat (!(rdOf false x270000 (rd x36 x38)))) x275001) else (none)) else (none)) else (none)) else (none)) else (none)) else (impl_Camp_after.l0 k x16 x17 (wrap64 (x18 + 1)) x270000 x270001 x275000 x275001)
end
def impl_Camp_after.f (k : Nat) (l0_0 : List Bool) (a0_1 : Int) (l1 : List (List Int)) : Option (List Bool × Int) := (slices_Clone_bool_bool.f l0_0).bind fun t271 => (impl_Camp_after.l0 k l1 (l1.length : Int) 0 l0_0 a0_1 t271 a0_1)
def impl_Camp_after.T1 : Bool × List (List Nat × List Nat) := (true, [([], []), ([0], [0]), ([1], [1]), ([], []), ([3], [3]), ([2, 4], [2, 4]), ([], []), ([6, 5, 2, 0, 1, 2, 3, 4, 5, 6], [5, 6])])
def impl_Camp_after.B1 : List Nat := [0, 1, 3, 0, 8, 31, 0, 127]
theorem impl_Camp_after.tab1 : rtab .any (opsOf Try.f91 1) = impl_Camp_after.T1 := by kernel_rfl
theorem impl_Camp_after.bits1 : waitsOk impl_Camp_after.T1.2 impl_Camp_after.B1 = true := by kernel_rfl
def impl_Camp_after.T5 : Bool × List (List Nat × List Nat) := (true, [([], []), ([0], [0]), ([], []), ([2], [2]), ([], []), ([4], [4]), ([5], [5]), ([3, 6], [3, 6]), ([7], [7]), ([8], [8]), ([9], [9]), ([10], [10]), ([1, 11], [1, 11]), ([0, 1, 2, 3, 4, 5, 6, 7, 8, 9, 10, 11, 12], []), ([13, 12, 9, 0, 1, 2, 3, 4, 5, 6, 7, 8, 9, 10, 11, 12], [12, 13])])
def impl_Camp_after.B5 : List Nat := [0, 1, 0, 4, 0, 16, 48, 124, 252, 508, 1020, 2044, 4095, 8191, 16383]
theorem impl_Camp_after.tab5 : rtab .any (opsOf Try.f91 5) = impl_Camp_after.T5 := by kernel_rfl
theorem impl_Camp_after.bits5 : waitsOk impl_Camp_after.T5.2 impl_Camp_after.B5 = true := by kernel_rfl
def impl_Camp_after.T9 : Bool × List (List Nat × List Nat) := (true, [([], []), ([0], [0]), ([], []), ([], []), ([3], [3]), ([], []), ([4, 5], [4, 5]), ([6], [6]), ([7], [7]), ([1, 2, 0, 1, 2, 3, 4, 5, 6, 7, 8], [1, 2]), ([9, 8, 0, 1, 2, 3, 4, 5, 6, 7, 8], [8, 9])])
def impl_Camp_after.B9 : List Nat := [0, 1, 0, 0, 8, 0, 56, 120, 248, 511, 1023]
theorem impl_Camp_after.tab9 : rtab .any (opsOf Try.f91 9) = impl_Camp_after.T9 := by kernel_rfl
theorem impl_Camp_after.bits9 : waitsOk impl_Camp_after.T9.2 impl_Camp_after.B9 = true := by kernel_rfl
set_option maxHeartbeats 8000000 in
set_option maxRecDepth 100000 in
theorem impl_Camp_after.calls (k : Nat) (A0_0 : Option Addr) (c0_0 : Nat) (l0_0 : List Bool) (a0_1 : Int) (A1 : Option Addr) (c1 : Nat) (l1 : List (List Int)) (r1 : List Bool) (r2 : Int) (w : World) (hr0_0 : Kd.C Kd.bool w A0_0 l0_0.length l0_0) (hc0_0 : l0_0.length ≤ c0_0) (hr1 : Kd.C (Kd.slice 3 (Kd.int .i64)) w A1 l1.length l1) (hc1 : l1.length ≤ c1) (h : impl_Camp_after.f k l0_0 a0_1 l1 = some (r1, r2)) :
  Calls Try.prog 91 #[.agg #[.slice A0_0 l0_0.length c0_0, .int .i64 a0_1], .slice A1 l1.length c1] w fun e w' => ∃ v0_ : Value, e = .returned (.agg #[v0_, .int .i64 r2]) ∧ Kd.R Kd.bool 4 w' w.heap.size (fun _ => True) v0_ r1 ∧ Below w.heap.size w w' := by
 have hu28 := Try.underlying28
 have HR0_0 := am' hr0_0
 have HC0_0 := am' hc0_0
 clear hr0_0 hc0_0; have HR1 := am' hr1
 have HC1 := am' hc1
 clear hr1 hc1; have HB := am' (Below.refl w.heap.size w)
 have H : ((slices_Clone_bool_bool.f l0_0).bind fun t271 => (impl_Camp_after.l0 k l1 (l1.length : Int) 0 l0_0 a0_1 t271 a0_1)) = some (r1, r2) := h
 clear h; replace H := Option.bind_eq_some_iff.mp H
 obtain ⟨t271, A30, H⟩ := H
 replace H : (impl_Camp_after.l0 k l1 (l1.length : Int) 0 l0_0 a0_1 t271 a0_1) = some (r1, r2) := H
 have A3 := am' A30
 clear A30; have H' := am' H
 clear H; go_enter Try.func91, Try.ntmps91
 try go_wp2_with (first | ((with_reducible refine gate_dst (N := 2) rfl ?_); refine box_event ?hg (N := 2) ?hd (cs := #[.slice A0_0 l0_0.length c0_0, .int .i64 a0_1]) (t := 28) ?hr ?_; (case hd => rfl); (case hg => rfl); (case hr => first | (go_simp; done) | (go_simp; rfl)); intro gb269 hg w4 hbox hb; have n0_ := am' (below_step (by repeat (first | (with_reducible first | exact HB.out | apply ba' | apply bd' | apply be') | exact HB.out)) hb); have n1_ := am' (hbox); have n2_ := am' ((by rw [hg]; exact (below_size (by repeat (first | (with_reducible first | exact HB.out | apply ba' | apply bd' | apply be') | exact HB.out))) : w.heap.size ≤ gb269)); have n3_ := am' ((by rw [hg]; exact (below_size (by repeat (first | (with_reducible first | exact HB.out | apply ba' | apply bd' | apply be') | exact HB.out))) : w.heap.size ≤ gb269)); clear HB; have HB := n0_; have BK269 := n1_; have GW269 := n2_; have GE269 := n3_; clear n0_ n1_ n2_ n3_; clear hb hbox hg) | ((with_reducible refine gate_dst (N := 4) rfl ?_); refine box_event ?hg (N := 4) ?hd (cs := #[.slice none 0 0, .int .i64 0]) (t := 28) ?hr ?_; (case hd => rfl); (case hg => rfl); (case hr => first | (go_simp; done) | (go_simp; rfl)); intro gb270 hg w5 hbox hb; have n0_ := am' (blk_below (g := gb269) (o := .cells #[.slice A0_0 l0_0.length c0_0, .int .i64 a0_1] 28 (0, 0)) (by (with_reducible repeat (first | refine kn' ?_ _ | refine kd' ?_ | refine ka' ?_ _)); exact BK269.out) hb); have n1_ := am' (below_step (by repeat (first | (with_reducible first | exact HB.out | apply ba' | apply bd' | apply be' | refine bs' ?_ GE269.out) | exact HB.out)) hb); have n2_ := am' (hbox); have n3_ := am' ((by rw [hg]; exact (below_size (by repeat (first | (with_reducible first | exact HB.out | apply ba' | apply bd' | apply be' | refine bs' ?_ GE269.out) | exact HB.out))) : w.heap.size ≤ gb270)); have n4_ := am' ((by rw [hg]; exact (below_size (by repeat (first | (with_reducible first | exact HB.out | apply ba' | apply bd' | apply be' | refine bs' ?_ GE269.out) | exact HB.out))) : w.heap.size ≤ gb270)); have n5_ := am' ((by rw [hg]; exact Nat.ne_of_lt (blk_lt (g := gb269) (o := .cells #[.slice A0_0 l0_0.length c0_0, .int .i64 a0_1] 28 (0, 0)) (by (with_reducible repeat (first | refine kn' ?_ _ | refine kd' ?_ | refine ka' ?_ _)); exact BK269.out)) : gb269 ≠ gb270)); have n6_ := am' ((by rw [hg]; exact Nat.ne_of_gt (blk_lt (g := gb269) (o := .cells #[.slice A0_0 l0_0.length c0_0, .int .i64 a0_1] 28 (0, 0)) (by (with_reducible repeat (first | refine kn' ?_ _ | refine kd' ?_ | refine ka' ?_ _)); exact BK269.out)) : gb270 ≠ gb269)); clear BK269; clear HB; have BK269 := n0_; have HB := n1_; have BK270 := n2_; have GW270 := n3_; have GE270 := n4_; have NB269_270 := n5_; have NB270_269 := n6_; clear n0_ n1_ n2_ n3_ n4_ n5_ n6_; clear hb hbox hg))
 have n0_ := am' (kd' BK269.out)
 have n1_ := am' (kd' BK270.out)
 have n2_ := am' (be' HB.out)
 clear BK269; clear BK270; clear HB; have BK269 := n0_; have BK270 := n1_; have HB := n2_; clear n0_ n1_ n2_; refine start_ (n := 8) (S := fun w' => w'.cell? ⟨gb269, 0, none⟩ = some (.slice A0_0 l0_0.length c0_0) ∧ w'.cell? ⟨gb269, 1, none⟩ = some (.int .i64 a0_1)) (ds := []) #[false, false, false, false, false, false, false, false] (by kernel_rfl) rfl rfl ⟨(blk_cell BK269.out 0).trans rfl, (blk_cell BK269.out 1).trans rfl⟩ (fun hHeld => ?_); refine with_tabW impl_Camp_after.tab1 impl_Camp_after.bits1 (fun HT_ HW_ => ?_)
 generalize w5.drew = w6 at BK269 BK270 HB hHeld ⊢
 refine pure_ (i := 0) (N := some 10) (v := ?_) (a' := ?_) #[true, false, false, false, false, false, false, false] rfl rfl (any_of HT_.out (by kernel_rfl)) (fun _ _ _ h => h) (Or.inl ⟨by rfl, ?_⟩) ?_ ?_
 rotate_left
 ·
  intro w'; go_simp; with_reducible rfl
 rotate_left
 ·
  simp only [Act.put, sa', sb', sc', i64_w, i32_w]
  rfl
 refine pure_ (i := 3) (N := some 13) (v := ?_) (a' := ?_) #[true, false, false, true, false, false, false, false] rfl rfl (any_of HT_.out (by kernel_rfl)) (fun _ _ _ h => h) (Or.inl ⟨by rfl, ?_⟩) ?_ ?_
 rotate_left
 ·
  intro w'; go_simp; with_reducible rfl
 rotate_left
 ·
  simp only [Act.put, sa', sb', sc', i64_w, i32_w]
  rfl
 refine take_ (i := 1) (N := some 11) (v := ?_) (a' := ?_) #[true, true, false, true, false, false, false, false] rfl rfl (take_ofW HT_.out HW_.out (by kernel_rfl)) (fun _ _ _ h => h) (Or.inl ⟨by rfl, ?_⟩) hHeld ?_ ?_
 rotate_left
 ·
  rintro w' ⟨s0, s1⟩
  go_simp; with_reducible rfl
 rotate_left
 ·
  simp only [Act.put, sa', sb', sc', i64_w, i32_w]
  rfl
 refine take_ (i := 4) (N := some 14) (v := ?_) (a' := ?_) #[true, true, false, true, true, false, false, false] rfl rfl (take_ofW HT_.out HW_.out (by kernel_rfl)) (fun _ _ _ h => h) (Or.inl ⟨by rfl, ?_⟩) hHeld ?_ ?_
 rotate_left
 ·
  rintro w' ⟨s0, s1⟩
  go_simp; with_reducible rfl
 rotate_left
 ·
  simp only [Act.put, sa', sb', sc', i64_w, i32_w]
  rfl
 refine join_ (σ := Value × Nat) 1 #[true, true, true, true, true, true, true, false] (fun s_ => [(12, s_.1), (5, .pointer (some ⟨s_.2, 0, none⟩)), (15, .agg #[s_.1, .int .i64 a0_1])]) (fun s_ w' => (w'.cell? ⟨gb269, 0, none⟩ = some (.slice A0_0 l0_0.length c0_0) ∧ w'.cell? ⟨gb269, 1, none⟩ = some (.int .i64 a0_1)) ∧ (Kd.R Kd.bool 4 w' w.heap.size (fun _ => True) s_.1 t271) ∧ (w'.heap[gb269]? = some (.cells #[.slice A0_0 l0_0.length c0_0, .int .i64 a0_1] 28 (0, 0))) ∧ (w'.heap[gb270]? = some (.cells #[.slice none 0 0, .int .i64 0] 28 (0, 0))) ∧ (w'.heap[s_.2]? = some (.cells #[.slice none 0 0, .int .i64 0] 28 (0, 0))) ∧ (w.heap.size ≤ s_.2) ∧ (w.heap.size ≤ s_.2) ∧ (gb269 ≠ s_.2) ∧ (s_.2 ≠ gb269) ∧ (gb270 ≠ s_.2) ∧ (s_.2 ≠ gb270) ∧ (Below w.heap.size w w')) ?_ ?_
 rotate_left
 ·
  intro hCont; refine two_ (i := 2) (j := 6) (Ni := some 12) (Nj := some 5) #[true, true, true, true, true, false, false, false] #[true, true, false, true, true, false, true, false] rfl rfl rfl rfl (two_of HT_.out (by kernel_rfl)) (by decide) (by decide) (fun K hK => ?_) (fun K hK => ?_)
  ·
   skip
   refine goes_ Try.func127 (by kernel_rfl) rfl #[.slice A0_0 l0_0.length c0_0] (by rfl) rfl rfl (by (try simp only [List.map_toArray, List.map_cons, List.map_nil]); first | done | rfl | (simp only [List.length_drop, List.length_take]; rfl)) ?_
   with_reducible refine (slices_Clone_bool_bool.calls _ _ l0_0 t271 _ ?side1 ?side2 A3.out).mono ?_
   (case side1 => repeat (first | exact (Kd.C_below HR0_0.out HB.out) | (with_reducible refine ca' ?_ _) | (with_reducible refine cn' ?_ _) | (with_reducible refine cd' ?_)))
   (case side2 => exact HC0_0.out)
   rintro e w7 ⟨v272, rfl, ho0, hb⟩
   refine ⟨_, rfl, ?_⟩
   have n0_ := am' (Kd.R_lower ho0 (below_size (by repeat (first | (with_reducible first | exact HB.out | apply ba' | apply bd' | apply be' | refine bs' ?_ GE269.out | refine bs' ?_ GE270.out) | exact HB.out))))
   have n1_ := am' (blk_below (g := gb269) (o := .cells #[.slice A0_0 l0_0.length c0_0, .int .i64 a0_1] 28 (0, 0)) (by (with_reducible repeat (first | refine kn' ?_ _ | refine kd' ?_ | refine ka' ?_ _)); exact BK269.out) hb)
   have n2_ := am' (blk_below (g := gb270) (o := .cells #[.slice none 0 0, .int .i64 0] 28 (0, 0)) (by (with_reducible repeat (first | refine kn' ?_ _ | refine kd' ?_ | refine ka' ?_ _)); exact BK270.out) hb)
   have n3_ := am' (below_step (by repeat (first | (with_reducible first | exact HB.out | apply ba' | apply bd' | apply be' | refine bs' ?_ GE269.out | refine bs' ?_ GE270.out) | exact HB.out)) hb)
   clear BK269; clear BK270; clear HB; have HO273 := n0_; have BK269 := n1_; have BK270 := n2_; have HB := n3_; clear n0_ n1_ n2_ n3_; (try clear hb)
   (try clear hb2)
   (try clear hk)
   (try clear hi)
   (try clear ho0)
   obtain ⟨Ao8, co8, eo8⟩ := Kd.R_slice HO273.out
   (first | subst eo8 | (injection eo8 with f1_ f2_ f3_; have f4_ := f1_.symm; have f5_ := f3_.symm; clear f1_ f2_ f3_; subst f4_; subst f5_))
   refine hK.out _ _ ⟨(blk_cell BK269.out 0).trans rfl, (blk_cell BK269.out 1).trans rfl⟩ (fun hHeld => ?_)
   clear hK K; refine norm_ (a' := ?_) ?_ ?_
   rotate_left
   ·
    show Act.put _ (some 12) _ = _
    simp only [Act.put, sa', sb', sc', i64_w, i32_w]
    rfl
   refine pure_ (i := 5) (N := some 15) (v := ?_) (a' := ?_) #[true, true, true, true, true, true, false, false] rfl rfl (any_of HT_.out (by kernel_rfl)) (fun _ _ _ h => h) (Or.inl ⟨by rfl, ?_⟩) ?_ ?_
   rotate_left
   ·
    intro w'; go_simp; with_reducible rfl
   rotate_left
   ·
    simp only [Act.put, sa', sb', sc', i64_w, i32_w]
    rfl
   refine one_ (i := 6) (N := some 5) #[true, true, true, true, true, true, true, false] rfl rfl (one_of HT_.out (by kernel_rfl)) (by decide) (fun K hK => ?_)
   refine box_step ?hg (N := 5) ?hd (cs := #[.slice none 0 0, .int .i64 0]) (t := 28) ?hr ?_; (case hd => rfl); (case hg => rfl); (case hr => first | (go_simp; done) | (go_simp; rfl))
   intro gb274 hg w9 hbox hb; have n0_ := am' (Kd.R_below (by (with_reducible repeat (first | apply ra' | apply rn' | apply rw')); exact HO273.out) hb)
   have n1_ := am' (blk_below (g := gb269) (o := .cells #[.slice A0_0 l0_0.length c0_0, .int .i64 a0_1] 28 (0, 0)) (by (with_reducible repeat (first | refine kn' ?_ _ | refine kd' ?_ | refine ka' ?_ _)); exact BK269.out) hb)
   have n2_ := am' (blk_below (g := gb270) (o := .cells #[.slice none 0 0, .int .i64 0] 28 (0, 0)) (by (with_reducible repeat (first | refine kn' ?_ _ | refine kd' ?_ | refine ka' ?_ _)); exact BK270.out) hb)
   have n3_ := am' (below_step (by repeat (first | (with_reducible first | exact HB.out | apply ba' | apply bd' | apply be' | refine bs' ?_ GE269.out | refine bs' ?_ GE270.out) | exact HB.out)) hb)
   have n4_ := am' (hbox)
   have n5_ := am' ((by rw [hg]; exact (below_size (by repeat (first | (with_reducible first | exact HB.out | apply ba' | apply bd' | apply be' | refine bs' ?_ GE269.out | refine bs' ?_ GE270.out) | exact HB.out))) : w.heap.size ≤ gb274))
   have n6_ := am' ((by rw [hg]; exact (below_size (by repeat (first | (with_reducible first | exact HB.out | apply ba' | apply bd' | apply be' | refine bs' ?_ GE269.out | refine bs' ?_ GE270.out) | exact HB.out))) : w.heap.size ≤ gb274))
   have n7_ := am' ((by rw [hg]; exact Nat.ne_of_lt (blk_lt (g := gb269) (o := .cells #[.slice A0_0 l0_0.length c0_0, .int .i64 a0_1] 28 (0, 0)) (by (with_reducible repeat (first | refine kn' ?_ _ | refine kd' ?_ | refine ka' ?_ _)); exact BK269.out)) : gb269 ≠ gb274))
   have n8_ := am' ((by rw [hg]; exact Nat.ne_of_gt (blk_lt (g := gb269) (o := .cells #[.slice A0_0 l0_0.length c0_0, .int .i64 a0_1] 28 (0, 0)) (by (with_reducible repeat (first | refine kn' ?_ _ | refine kd' ?_ | refine ka' ?_ _)); exact BK269.out)) : gb274 ≠ gb269))
   have n9_ := am' ((by rw [hg]; exact Nat.ne_of_lt (blk_lt (g := gb270) (o := .cells #[.slice none 0 0, .int .i64 0] 28 (0, 0)) (by (with_reducible repeat (first | refine kn' ?_ _ | refine kd' ?_ | refine ka' ?_ _)); exact BK270.out)) : gb270 ≠ gb274))
   have n10_ := am' ((by rw [hg]; exact Nat.ne_of_gt (blk_lt (g := gb270) (o := .cells #[.slice none 0 0, .int .i64 0] 28 (0, 0)) (by (with_reducible repeat (first | refine kn' ?_ _ | refine kd' ?_ | refine ka' ?_ _)); exact BK270.out)) : gb274 ≠ gb270))
   clear HO273; clear BK269; clear BK270; clear HB; have HO273 := n0_; have BK269 := n1_; have BK270 := n2_; have HB := n3_; have BK274 := n4_; have GW274 := n5_; have GE274 := n6_; have NB269_274 := n7_; have NB274_269 := n8_; have NB270_274 := n9_; have NB274_270 := n10_; clear n0_ n1_ n2_ n3_ n4_ n5_ n6_ n7_ n8_ n9_ n10_; clear hb hbox hg; refine hK.out _ _ ⟨(blk_cell BK269.out 0).trans rfl, (blk_cell BK269.out 1).trans rfl⟩ (fun hHeld => ?_)
   clear hK K; refine norm_ (a' := ?_) ?_ ?_
   rotate_left
   ·
    show Act.put _ (some 5) _ = _
    simp only [Act.put, sa', sb', sc', i64_w, i32_w]
    rfl
   exact norm_ (by simp only [putAll, Act.put, sa', sb', sc']) (hCont (.slice Ao8 t271.length co8, gb274) _ ⟨hHeld, (by (with_reducible repeat (first | apply ra' | apply rn' | apply rw')); exact HO273.out), (by (with_reducible repeat (first | refine kn' ?_ _ | refine kd' ?_ | refine ka' ?_ _)); exact BK269.out), (by (with_reducible repeat (first | refine kn' ?_ _ | refine kd' ?_ | refine ka' ?_ _)); exact BK270.out), (by (with_reducible repeat (first | refine kn' ?_ _ | refine kd' ?_ | refine ka' ?_ _)); exact BK274.out), GW274.out, GE274.out, NB269_274.out, NB274_269.out, NB270_274.out, NB274_270.out, (by repeat (first | (with_reducible first | exact HB.out | apply ba' | apply bd' | apply be' | refine bs' ?_ GE269.out | refine bs' ?_ GE270.out | refine bs' ?_ GE274.out) | exact HB.out))⟩)
  ·
   skip
   refine box_step ?hg (N := 5) ?hd (cs := #[.slice none 0 0, .int .i64 0]) (t := 28) ?hr ?_; (case hd => rfl); (case hg => rfl); (case hr => first | (go_simp; done) | (go_simp; rfl))
   intro gb274 hg w7 hbox hb; have n0_ := am' (blk_below (g := gb269) (o := .cells #[.slice A0_0 l0_0.length c0_0, .int .i64 a0_1] 28 (0, 0)) (by (with_reducible repeat (first | refine kn' ?_ _ | refine kd' ?_ | refine ka' ?_ _)); exact BK269.out) hb)
   have n1_ := am' (blk_below (g := gb270) (o := .cells #[.slice none 0 0, .int .i64 0] 28 (0, 0)) (by (with_reducible repeat (first | refine kn' ?_ _ | refine kd' ?_ | refine ka' ?_ _)); exact BK270.out) hb)
   have n2_ := am' (below_step (by repeat (first | (with_reducible first | exact HB.out | apply ba' | apply bd' | apply be' | refine bs' ?_ GE269.out | refine bs' ?_ GE270.out) | exact HB.out)) hb)
   have n3_ := am' (hbox)
   have n4_ := am' ((by rw [hg]; exact (below_size (by repeat (first | (with_reducible first | exact HB.out | apply ba' | apply bd' | apply be' | refine bs' ?_ GE269.out | refine bs' ?_ GE270.out) | exact HB.out))) : w.heap.size ≤ gb274))
   have n5_ := am' ((by rw [hg]; exact (below_size (by repeat (first | (with_reducible first | exact HB.out | apply ba' | apply bd' | apply be' | refine bs' ?_ GE269.out | refine bs' ?_ GE270.out) | exact HB.out))) : w.heap.size ≤ gb274))
   have n6_ := am' ((by rw [hg]; exact Nat.ne_of_lt (blk_lt (g := gb269) (o := .cells #[.slice A0_0 l0_0.length c0_0, .int .i64 a0_1] 28 (0, 0)) (by (with_reducible repeat (first | refine kn' ?_ _ | refine kd' ?_ | refine ka' ?_ _)); exact BK269.out)) : gb269 ≠ gb274))
   have n7_ := am' ((by rw [hg]; exact Nat.ne_of_gt (blk_lt (g := gb269) (o := .cells #[.slice A0_0 l0_0.length c0_0, .int .i64 a0_1] 28 (0, 0)) (by (with_reducible repeat (first | refine kn' ?_ _ | refine kd' ?_ | refine ka' ?_ _)); exact BK269.out)) : gb274 ≠ gb269))
   have n8_ := am' ((by rw [hg]; exact Nat.ne_of_lt (blk_lt (g := gb270) (o := .cells #[.slice none 0 0, .int .i64 0] 28 (0, 0)) (by (with_reducible repeat (first | refine kn' ?_ _ | refine kd' ?_ | refine ka' ?_ _)); exact BK270.out)) : gb270 ≠ gb274))
   have n9_ := am' ((by rw [hg]; exact Nat.ne_of_gt (blk_lt (g := gb270) (o := .cells #[.slice none 0 0, .int .i64 0] 28 (0, 0)) (by (with_reducible repeat (first | refine kn' ?_ _ | refine kd' ?_ | refine ka' ?_ _)); exact BK270.out)) : gb274 ≠ gb270))
   clear BK269; clear BK270; clear HB; have BK269 := n0_; have BK270 := n1_; have HB := n2_; have BK274 := n3_; have GW274 := n4_; have GE274 := n5_; have NB269_274 := n6_; have NB274_269 := n7_; have NB270_274 := n8_; have NB274_270 := n9_; clear n0_ n1_ n2_ n3_ n4_ n5_ n6_ n7_ n8_ n9_; clear hb hbox hg; refine hK.out _ _ ⟨(blk_cell BK269.out 0).trans rfl, (blk_cell BK269.out 1).trans rfl⟩ (fun hHeld => ?_)
   clear hK K; refine norm_ (a' := ?_) ?_ ?_
   rotate_left
   ·
    show Act.put _ (some 5) _ = _
    simp only [Act.put, sa', sb', sc', i64_w, i32_w]
    rfl
   refine one_ (i := 2) (N := some 12) #[true, true, true, true, true, false, true, false] rfl rfl (one_of HT_.out (by kernel_rfl)) (by decide) (fun K hK => ?_)
   refine goes_ Try.func127 (by kernel_rfl) rfl #[.slice A0_0 l0_0.length c0_0] (by rfl) rfl rfl (by (try simp only [List.map_toArray, List.map_cons, List.map_nil]); first | done | rfl | (simp only [List.length_drop, List.length_take]; rfl)) ?_
   with_reducible refine (slices_Clone_bool_bool.calls _ _ l0_0 t271 _ ?side1 ?side2 A3.out).mono ?_
   (case side1 => repeat (first | exact (Kd.C_below HR0_0.out HB.out) | (with_reducible refine ca' ?_ _) | (with_reducible refine cn' ?_ _) | (with_reducible refine cd' ?_)))
   (case side2 => exact HC0_0.out)
   rintro e w8 ⟨v272, rfl, ho0, hb⟩
   refine ⟨_, rfl, ?_⟩
   have n0_ := am' (Kd.R_lower ho0 (below_size (by repeat (first | (with_reducible first | exact HB.out | apply ba' | apply bd' | apply be' | refine bs' ?_ GE269.out | refine bs' ?_ GE270.out | refine bs' ?_ GE274.out) | exact HB.out))))
   have n1_ := am' (blk_below (g := gb269) (o := .cells #[.slice A0_0 l0_0.length c0_0, .int .i64 a0_1] 28 (0, 0)) (by (with_reducible repeat (first | refine kn' ?_ _ | refine kd' ?_ | refine ka' ?_ _)); exact BK269.out) hb)
   have n2_ := am' (blk_below (g := gb270) (o := .cells #[.slice none 0 0, .int .i64 0] 28 (0, 0)) (by (with_reducible repeat (first | refine kn' ?_ _ | refine kd' ?_ | refine ka' ?_ _)); exact BK270.out) hb)
   have n3_ := am' (blk_below (g := gb274) (o := .cells #[.slice none 0 0, .int .i64 0] 28 (0, 0)) (by (with_reducible repeat (first | refine kn' ?_ _ | refine kd' ?_ | refine ka' ?_ _)); exact BK274.out) hb)
   have n4_ := am' (below_step (by repeat (first | (with_reducible first | exact HB.out | apply ba' | apply bd' | apply be' | refine bs' ?_ GE269.out | refine bs' ?_ GE270.out | refine bs' ?_ GE274.out) | exact HB.out)) hb)
   clear BK269; clear BK270; clear BK274; clear HB; have HO273 := n0_; have BK269 := n1_; have BK270 := n2_; have BK274 := n3_; have HB := n4_; clear n0_ n1_ n2_ n3_ n4_; (try clear hb)
   (try clear hb2)
   (try clear hk)
   (try clear hi)
   (try clear ho0)
   obtain ⟨Ao9, co9, eo9⟩ := Kd.R_slice HO273.out
   (first | subst eo9 | (injection eo9 with f1_ f2_ f3_; have f4_ := f1_.symm; have f5_ := f3_.symm; clear f1_ f2_ f3_; subst f4_; subst f5_))
   refine hK.out _ _ ⟨(blk_cell BK269.out 0).trans rfl, (blk_cell BK269.out 1).trans rfl⟩ (fun hHeld => ?_)
   clear hK K; refine norm_ (a' := ?_) ?_ ?_
   rotate_left
   ·
    show Act.put _ (some 12) _ = _
    simp only [Act.put, sa', sb', sc', i64_w, i32_w]
    rfl
   refine pure_ (i := 5) (N := some 15) (v := ?_) (a' := ?_) #[true, true, true, true, true, true, true, false] rfl rfl (any_of HT_.out (by kernel_rfl)) (fun _ _ _ h => h) (Or.inl ⟨by rfl, ?_⟩) ?_ ?_
   rotate_left
   ·
    intro w'; go_simp; with_reducible rfl
   rotate_left
   ·
    simp only [Act.put, sa', sb', sc', i64_w, i32_w]
    rfl
   exact norm_ (by simp only [putAll, Act.put, sa', sb', sc']) (hCont (.slice Ao9 t271.length co9, gb274) _ ⟨hHeld, (by (with_reducible repeat (first | apply ra' | apply rn' | apply rw')); exact HO273.out), (by (with_reducible repeat (first | refine kn' ?_ _ | refine kd' ?_ | refine ka' ?_ _)); exact BK269.out), (by (with_reducible repeat (first | refine kn' ?_ _ | refine kd' ?_ | refine ka' ?_ _)); exact BK270.out), (by (with_reducible repeat (first | refine kn' ?_ _ | refine kd' ?_ | refine ka' ?_ _)); exact BK274.out), GW274.out, GE274.out, NB269_274.out, NB274_269.out, NB270_274.out, NB274_270.out, (by repeat (first | (with_reducible first | exact HB.out | apply ba' | apply bd' | apply be' | refine bs' ?_ GE269.out | refine bs' ?_ GE270.out | refine bs' ?_ GE274.out) | exact HB.out))⟩)
 rintro ⟨v272, gb274⟩ w10 ⟨hS_, h0_, h1_, h2_, h3_, h4_, h5_, h6_, h7_, h8_, h9_, h10_⟩
 have n0_ : Aside0 (Kd.R Kd.bool 4 w10 w.heap.size (fun _ => True) v272 t271) := ⟨h0_⟩
 have n1_ : Aside0 (w10.heap[gb269]? = some (.cells #[.slice A0_0 l0_0.length c0_0, .int .i64 a0_1] 28 (0, 0))) := ⟨h1_⟩
 have n2_ : Aside0 (w10.heap[gb270]? = some (.cells #[.slice none 0 0, .int .i64 0] 28 (0, 0))) := ⟨h2_⟩
 have n3_ : Aside0 (w10.heap[gb274]? = some (.cells #[.slice none 0 0, .int .i64 0] 28 (0, 0))) := ⟨h3_⟩
 have n4_ : Aside0 (w.heap.size ≤ gb274) := ⟨h4_⟩
 have n5_ : Aside0 (w.heap.size ≤ gb274) := ⟨h5_⟩
 have n6_ : Aside0 (gb269 ≠ gb274) := ⟨h6_⟩
 have n7_ : Aside0 (gb274 ≠ gb269) := ⟨h7_⟩
 have n8_ : Aside0 (gb270 ≠ gb274) := ⟨h8_⟩
 have n9_ : Aside0 (gb274 ≠ gb270) := ⟨h9_⟩
 have n10_ : Aside0 (Below w.heap.size w w10) := ⟨h10_⟩
 clear BK269; clear BK270; clear HB; clear h0_ h1_ h2_ h3_ h4_ h5_ h6_ h7_ h8_ h9_ h10_; have HO273 := n0_; have BK269 := n1_; have BK270 := n2_; have BK274 := n3_; have GW274 := n4_; have GE274 := n5_; have NB269_274 := n6_; have NB274_269 := n7_; have NB270_274 := n8_; have NB274_270 := n9_; have HB := n10_; clear n0_ n1_ n2_ n3_ n4_ n5_ n6_ n7_ n8_ n9_ n10_; have hHeld : w10.cell? ⟨gb269, 0, none⟩ = some (.slice A0_0 l0_0.length c0_0) ∧ w10.cell? ⟨gb269, 1, none⟩ = some (.int .i64 a0_1) := hS_
 obtain ⟨Ao11, co11, eo11⟩ := Kd.R_slice HO273.out
 (first | subst eo11 | (injection eo11 with f1_ f2_ f3_; have f4_ := f1_.symm; have f5_ := f3_.symm; clear f1_ f2_ f3_; subst f4_; subst f5_))
 refine norm_ (a' := ?_) ?_ ?_
 rotate_left
 ·
  simp only [putAll, Act.put, sa', sb', sc']
  rfl
 refine one_ (i := 7) (N := none) #[true, true, true, true, true, true, true, true] rfl rfl (one_of HT_.out (by kernel_rfl)) (by decide) (fun K hK => ?_)
 have hs12 : w10.cell? ⟨gb274, 0, none⟩ = some (.slice none 0 0) := (blk_cell BK274.out 0).trans rfl
 have hfs12 := blk_frozen BK274.out 0
 have hns12_0 := NB269_274.out
 have hns12_1 := NB270_274.out
 have hms12_0 := NB274_269.out
 have hms12_1 := NB274_270.out
 have hs13 : w10.cell? ⟨gb274, 1, none⟩ = some (.int .i64 0) := (blk_cell BK274.out 1).trans rfl
 have hfs13 := blk_frozen BK274.out 1
 have hns13_0 := NB269_274.out
 have hns13_1 := NB270_274.out
 have hms13_0 := NB274_269.out
 have hms13_1 := NB274_270.out
 refine skip_ (w1 := ?_) (by rfl) rfl ?_ ?_
 rotate_left
 ·
  go_simp; rfl
 refine hK.out _ _ ⟨((cell_far (p := ⟨gb274, _, none⟩) NB269_274.out _).trans (((cell_far (p := ⟨gb274, _, none⟩) NB269_274.out _).trans (hHeld.1)))), ((cell_far (p := ⟨gb274, _, none⟩) NB269_274.out _).trans (((cell_far (p := ⟨gb274, _, none⟩) NB269_274.out _).trans (hHeld.2))))⟩ (fun hHeld => ?_)
 clear hK K; refine done_ (done_of HT_.out (by kernel_rfl)) ?_
 try go_wp2
 go_loopg [18] k (fun kq v18 w' => ∃ (x18_1 : Int) (x275000_1 : List Bool) (x275001_1 : Int) (u275000 : Value), v18 = .int .i64 x18_1 ∧ Aside0 (impl_Camp_after.l0 kq l1 (l1.length : Int) x18_1 l0_0 a0_1 x275000_1 x275001_1 = some (r1, r2)) ∧ Aside0 (kq ≤ k) ∧ Aside0 (Kd.R Kd.bool 4 w' w.heap.size (fun _ => True) u275000 x275000_1) ∧ Aside0 (w'.heap[gb269]? = some (.cells #[(.slice A0_0 l0_0.length c0_0), .int .i64 a0_1] 28 (0, 0))) ∧ Aside0 (w'.heap[gb270]? = some (.cells #[(.slice none 0 0), .int .i64 0] 28 (0, 0))) ∧ Aside0 (w'.heap[gb274]? = some (.cells #[u275000, .int .i64 x275001_1] 28 (0, 0))) ∧ Aside0 (Below w.heap.size w w'))
 case atStart => exact ⟨(0), (t271), (a0_1), (.slice Ao11 t271.length co11), (by first | rfl | (simp; done) | (simp [*]; done)), H', ⟨Nat.le_refl _⟩, ⟨by (with_reducible repeat (first | apply ra' | apply rn' | apply rw')); exact Kd.R_mono (Kd.R_far (p := ⟨gb274, 1, none⟩) (Kd.R_far (p := ⟨gb274, 0, none⟩) (Kd.R_types HO273.out BK274.out (by decide)) (fun _ hk => hk.2) (.slice Ao11 t271.length co11)) (fun _ hk => hk.2) (.int .i64 a0_1)) (fun _ hk => trivial)⟩, ⟨by (with_reducible repeat (first | refine kn' ?_ _ | refine kd' ?_ | refine ka' ?_ _)); refine blk_far ?_ NB269_274.out _; (with_reducible repeat (first | refine kn' ?_ _ | refine kd' ?_ | refine ka' ?_ _)); refine blk_far ?_ NB269_274.out _; (with_reducible repeat (first | refine kn' ?_ _ | refine kd' ?_ | refine ka' ?_ _)); exact BK269.out⟩, ⟨by (with_reducible repeat (first | refine kn' ?_ _ | refine kd' ?_ | refine ka' ?_ _)); refine blk_far ?_ NB270_274.out _; (with_reducible repeat (first | refine kn' ?_ _ | refine kd' ?_ | refine ka' ?_ _)); refine blk_far ?_ NB270_274.out _; (with_reducible repeat (first | refine kn' ?_ _ | refine kd' ?_ | refine ka' ?_ _)); exact BK270.out⟩, ⟨by (with_reducible repeat (first | refine kn' ?_ _ | refine kd' ?_ | refine ka' ?_ _)); refine blk_put (cs := #[.slice Ao11 t271.length co11, .int .i64 0]) ?_ 1 _ rfl; (with_reducible repeat (first | refine kn' ?_ _ | refine kd' ?_ | refine ka' ?_ _)); refine blk_put (cs := #[.slice none 0 0, .int .i64 0]) ?_ 0 _ rfl; (with_reducible repeat (first | refine kn' ?_ _ | refine kd' ?_ | refine ka' ?_ _)); exact BK274.out⟩, ⟨by repeat (first | (with_reducible first | exact HB.out | apply ba' | apply bd' | apply be' | refine bs' ?_ GE269.out | refine bs' ?_ GE270.out | refine bs' ?_ GE274.out) | exact HB.out)⟩⟩
 case round =>
  clear H'; try clear c1
  try clear p2
  try clear c9
  try clear c12
  obtain ⟨x18_1, x275000_1, x275001_1, u275000, rfl, HA, HK1, HO_275000, BK269, BK270, BK274, HB⟩ := hrel
  cases gk with
  | zero => exact absurd HA.out (by simp [impl_Camp_after.l0])
  | succ k1 =>
   have H := HA.out
   clear HA; simp only [impl_Camp_after.l0] at H
   by_cases c14 : x18_1 < (l1.length : Int)
   ·
    rw [if_pos c14] at H; have c14b0 : decide (x18_1 < (l1.length : Int)) = true := decide_eq_true c14
    clear c14; by_cases c15 : 0 ≤ x18_1
    ·
     rw [if_pos c15] at H; have c15b0 : decide (0 ≤ x18_1) = true := decide_eq_true c15
     clear c15; by_cases c16 : x18_1 < (l1.length : Int)
     ·
      rw [if_pos c16] at H; have c16b0 : decide (x18_1 < (l1.length : Int)) = true := decide_eq_true c16
      clear c16; by_cases c17 : 0 < ((rd_L2 l1 x18_1).length : Int)
      ·
       rw [if_pos c17] at H; have c17b0 : decide (0 < ((rd_L2 l1 x18_1).length : Int)) = true := decide_eq_true c17
       have c17b1 : decide (0 < (rd_L2 l1 x18_1).length) = true := decide_eq_true (by omega)
       clear c17; by_cases c18 : 0 ≤ (rd (rd_L2 l1 x18_1) 0)
       ·
        rw [if_pos c18] at H; have c18b0 : decide (0 ≤ (rd (rd_L2 l1 x18_1) 0)) = true := decide_eq_true c18
        clear c18; by_cases c19 : (rd (rd_L2 l1 x18_1) 0) < (l0_0.length : Int)
        ·
         rw [if_pos c19] at H; have c19b0 : decide ((rd (rd_L2 l1 x18_1) 0) < (l0_0.length : Int)) = true := decide_eq_true c19
         clear c19; replace H := Option.bind_eq_some_iff.mp H
         obtain ⟨t278, A200, H⟩ := H
         replace H : (impl_Camp_after.l1 k1 l1 (l1.length : Int) x18_1 (rd_L2 l1 x18_1) ((rd_L2 l1 x18_1).length : Int) 0 l0_0 a0_1 x275000_1 (wrap64 (x275001_1 + (wrap64 (1 - (wrap64 (2 * t278))))))) = some (r1, r2) := H
         have A20 := am' A200
         clear A200; have H' := am' H
         clear H; have p275 : 0 ≤ (x18_1 : Int) := of_decide_eq_true (by first | (with_reducible assumption) | assumption)
         have q275 : x18_1 < (l1.length : Int) := of_decide_eq_true (by first | (with_reducible assumption) | assumption)
         obtain ⟨ad275, A275_0, c275_0, e275, hx275_0, hl275_0, hi275_0⟩ := at_L2 HR1.out x18_1 p275 q275
         cases e275
         replace hx275_0 := (HB.out.cell (bl' w _ hx275_0)).trans hx275_0
         have HR275_0 := am' hi275_0
         have HC275_0 := am' hl275_0
         clear hi275_0 hl275_0; replace p275 := eq_true p275
         replace q275 := eq_true q275
         try go_wp2
         have n0_ := am' (rw' HO_275000.out)
         have n1_ := am' (kd' BK269.out)
         have n2_ := am' (kd' BK270.out)
         have n3_ := am' (kd' BK274.out)
         have n4_ := am' (be' HB.out)
         clear HO_275000; clear BK269; clear BK270; clear BK274; clear HB; have HO_275000 := n0_; have BK269 := n1_; have BK270 := n2_; have BK274 := n3_; have HB := n4_; clear n0_ n1_ n2_ n3_ n4_; have p276 : 0 ≤ (0 : Int) := (by omega)
         have q276 : 0 < ((rd_L2 l1 x18_1).length : Int) := of_decide_eq_true (by first | (with_reducible assumption) | assumption)
         obtain ⟨ad276, e276, hx276_0⟩ := Kd.at_int HR275_0.out 0 p276 q276
         have hw276_0 := hx276_0; (try rw [show ((0 : Int)).toNat = 0 from rfl] at hw276_0)
         (try rw [show 0 * 1 = 0 from rfl] at hw276_0)
         (try rw [Addr.add_zero'] at hw276_0)
         cases e276
         have qi276 : (0 < (rd_L2 l1 x18_1).length) = True := eq_true (by omega)
         (try rw [show ((0 : Int)).toNat = 0 from rfl] at hx276_0)
         (try rw [Addr.add_zero'] at hx276_0)
         replace hx276_0 := (HB.out.cell (bl' w _ hx276_0)).trans hx276_0
         replace p276 := eq_true p276
         replace q276 := eq_true q276
         have p277 : 0 ≤ ((rd (rd_L2 l1 x18_1) 0) : Int) := of_decide_eq_true (by first | (with_reducible assumption) | assumption)
         have q277 : (rd (rd_L2 l1 x18_1) 0) < (l0_0.length : Int) := of_decide_eq_true (by first | (with_reducible assumption) | assumption)
         obtain ⟨ad277, e277, hx277_0⟩ := Kd.at_bool HR0_0.out (rd (rd_L2 l1 x18_1) 0) p277 q277
         have hw277_0 := hx277_0; cases e277
         replace hx277_0 := (HB.out.cell (bl' w _ hx277_0)).trans hx277_0
         replace p277 := eq_true p277
         replace q277 := eq_true q277
         refine start_ (n := 15) (S := fun w' => w'.cell? ⟨gb274, 0, none⟩ = some (u275000) ∧ w'.cell? ⟨gb274, 1, none⟩ = some (.int .i64 x275001_1) ∧ w'.cell? ⟨gb269, 0, none⟩ = some (.slice (some ad277) l0_0.length c0_0) ∧ w'.cell? ⟨gb269, 1, none⟩ = some (.int .i64 a0_1) ∧ w'.cell? ad276 = some (.int .i64 (rd (rd_L2 l1 x18_1) 0)) ∧ w'.cell? (ad277.add ((rd (rd_L2 l1 x18_1) 0)).toNat) = some (.bool (rdOf false l0_0 (rd (rd_L2 l1 x18_1) 0)))) (ds := [14]) #[false, false, false, false, false, false, false, false, false, false, false, false, false, false, false] (by kernel_rfl) rfl rfl ⟨(blk_cell BK274.out 0).trans rfl, (blk_cell BK274.out 1).trans rfl, (blk_cell BK269.out 0).trans rfl, (blk_cell BK269.out 1).trans rfl, ((HB.out.cell (bl' w _ hw276_0)).trans hw276_0), ((HB.out.cell (bl' w _ hw277_0)).trans hw277_0)⟩ (fun hHeld => ?_); refine with_tabW impl_Camp_after.tab5 impl_Camp_after.bits5 (fun HT_ HW_ => ?_)
         generalize wr.drew = w21 at HO_275000 BK269 BK270 BK274 HB hx276_0 hx277_0 hHeld ⊢
         refine pure_ (i := 0) (N := some 22) (v := ?_) (a' := ?_) #[true, false, false, false, false, false, false, false, false, false, false, false, false, false, false] rfl rfl (any_of HT_.out (by kernel_rfl)) (fun _ _ _ h => h) (Or.inl ⟨by rfl, ?_⟩) ?_ ?_
         rotate_left
         ·
          intro w'; go_simp; with_reducible rfl
         rotate_left
         ·
          simp only [Act.put, sa', sb', sc', i64_w, i32_w]
          rfl
         refine pure_ (i := 2) (N := some 24) (v := ?_) (a' := ?_) #[true, false, true, false, false, false, false, false, false, false, false, false, false, false, false] rfl rfl (any_of HT_.out (by kernel_rfl)) (fun _ _ _ h => h) (Or.inl ⟨by rfl, ?_⟩) ?_ ?_
         rotate_left
         ·
          intro w'; go_simp; with_reducible rfl
         rotate_left
         ·
          simp only [Act.put, sa', sb', sc', i64_w, i32_w]
          rfl
         refine pure_ (i := 4) (N := some 26) (v := ?_) (a' := ?_) #[true, false, true, false, true, false, false, false, false, false, false, false, false, false, false] rfl rfl (any_of HT_.out (by kernel_rfl)) (fun _ _ _ h => h) (Or.inl ⟨by rfl, ?_⟩) ?_ ?_
         rotate_left
         ·
          intro w'; go_simp; with_reducible rfl
         rotate_left
         ·
          simp only [Act.put, sa', sb', sc', i64_w, i32_w]
          rfl
         refine pure_ (i := 5) (N := some 27) (v := ?_) (a' := ?_) #[true, false, true, false, true, true, false, false, false, false, false, false, false, false, false] rfl rfl (any_of HT_.out (by kernel_rfl)) (fun _ _ _ h => h) (Or.inl ⟨by rfl, ?_⟩) ?_ ?_
         rotate_left
         ·
          intro w'; go_simp; with_reducible rfl
         rotate_left
         ·
          simp only [Act.put, sa', sb', sc', i64_w, i32_w]
          rfl
         refine take_ (i := 1) (N := some 23) (v := ?_) (a' := ?_) #[true, true, true, false, true, true, false, false, false, false, false, false, false, false, false] rfl rfl (take_ofW HT_.out HW_.out (by kernel_rfl)) (fun _ _ _ h => h) (Or.inl ⟨by rfl, ?_⟩) hHeld ?_ ?_
         rotate_left
         ·
          rintro w' ⟨s0, s1, s2, s3, s4, s5⟩
          go_simp; with_reducible rfl
         rotate_left
         ·
          simp only [Act.put, sa', sb', sc', i64_w, i32_w]
          rfl
         refine take_ (i := 3) (N := some 25) (v := ?_) (a' := ?_) #[true, true, true, true, true, true, false, false, false, false, false, false, false, false, false] rfl rfl (take_ofW HT_.out HW_.out (by kernel_rfl)) (fun _ _ _ h => h) (Or.inl ⟨by rfl, ?_⟩) hHeld ?_ ?_
         rotate_left
         ·
          rintro w' ⟨s0, s1, s2, s3, s4, s5⟩
          go_simp; with_reducible rfl
         rotate_left
         ·
          simp only [Act.put, sa', sb', sc', i64_w, i32_w]
          rfl
         refine take_ (i := 6) (N := some 28) (v := ?_) (a' := ?_) #[true, true, true, true, true, true, true, false, false, false, false, false, false, false, false] rfl rfl (take_ofW HT_.out HW_.out (by kernel_rfl)) (fun _ _ _ h => h) (Or.inl ⟨by rfl, ?_⟩) hHeld ?_ ?_
         rotate_left
         ·
          rintro w' ⟨s0, s1, s2, s3, s4, s5⟩
          go_simp; with_reducible rfl
         rotate_left
         ·
          simp only [Act.put, sa', sb', sc', i64_w, i32_w]
          rfl
         refine pure_ (i := 7) (N := some 29) (v := ?_) (a' := ?_) #[true, true, true, true, true, true, true, true, false, false, false, false, false, false, false] rfl rfl (any_of HT_.out (by kernel_rfl)) (fun _ _ _ h => h) (Or.inl ⟨by rfl, ?_⟩) ?_ ?_
         rotate_left
         ·
          intro w'; go_simp; with_reducible rfl
         rotate_left
         ·
          simp only [Act.put, sa', sb', sc', i64_w, i32_w]
          rfl
         refine take_ (i := 8) (N := some 30) (v := ?_) (a' := ?_) #[true, true, true, true, true, true, true, true, true, false, false, false, false, false, false] rfl rfl (take_ofW HT_.out HW_.out (by kernel_rfl)) (fun _ _ _ h => h) (Or.inl ⟨by rfl, ?_⟩) hHeld ?_ ?_
         rotate_left
         ·
          rintro w' ⟨s0, s1, s2, s3, s4, s5⟩
          go_simp; with_reducible rfl
         rotate_left
         ·
          simp only [Act.put, sa', sb', sc', i64_w, i32_w]
          rfl
         refine one_ (i := 9) (N := some 31) #[true, true, true, true, true, true, true, true, true, true, false, false, false, false, false] rfl rfl (one_of HT_.out (by kernel_rfl)) (by decide) (fun K hK => ?_)
         refine goes_ Try.func128 (by kernel_rfl) rfl #[.bool (rdOf false l0_0 (rd (rd_L2 l1 x18_1) 0))] (by rfl) rfl rfl (by (try simp only [List.map_toArray, List.map_cons, List.map_nil]); first | done | rfl | (simp only [List.length_drop, List.length_take]; rfl)) ?_
         with_reducible refine (impl_bit.calls (rdOf false l0_0 (rd (rd_L2 l1 x18_1) 0)) t278 _ A20.out).mono ?_
         rintro e w' ⟨rfl, ⟨nd, rfl⟩⟩
         refine ⟨_, rfl, ?_⟩
         refine hK.out _ _ ⟨(blk_cell BK274.out 0).trans rfl, (blk_cell BK274.out 1).trans rfl, (blk_cell BK269.out 0).trans rfl, (blk_cell BK269.out 1).trans rfl, ((HB.out.cell (bl' w _ hw276_0)).trans hw276_0), ((HB.out.cell (bl' w _ hw277_0)).trans hw277_0)⟩ (fun hHeld => ?_)
         clear hK K; refine norm_ (a' := ?_) ?_ ?_
         rotate_left
         ·
          show Act.put _ (some 31) _ = _
          simp only [Act.put, sa', sb', sc', i64_w, i32_w]
          rfl
         refine pure_ (i := 10) (N := some 32) (v := ?_) (a' := ?_) #[true, true, true, true, true, true, true, true, true, true, true, false, false, false, false] rfl rfl (any_of HT_.out (by kernel_rfl)) (fun _ _ _ h => h) (Or.inl ⟨by rfl, ?_⟩) ?_ ?_
         rotate_left
         ·
          intro w'; go_simp; with_reducible rfl
         rotate_left
         ·
          simp only [Act.put, sa', sb', sc', i64_w, i32_w]
          rfl
         refine pure_ (i := 11) (N := some 33) (v := ?_) (a' := ?_) #[true, true, true, true, true, true, true, true, true, true, true, true, false, false, false] rfl rfl (any_of HT_.out (by kernel_rfl)) (fun _ _ _ h => h) (Or.inl ⟨by rfl, ?_⟩) ?_ ?_
         rotate_left
         ·
          intro w'; go_simp; with_reducible rfl
         rotate_left
         ·
          simp only [Act.put, sa', sb', sc', i64_w, i32_w]
          rfl
         refine pure_ (i := 12) (N := some 34) (v := ?_) (a' := ?_) #[true, true, true, true, true, true, true, true, true, true, true, true, true, false, false] rfl rfl (any_of HT_.out (by kernel_rfl)) (fun _ _ _ h => h) (Or.inl ⟨by rfl, ?_⟩) ?_ ?_
         rotate_left
         ·
          intro w'; go_simp; with_reducible rfl
         rotate_left
         ·
          simp only [Act.put, sa', sb', sc', i64_w, i32_w]
          rfl
         refine pure_ (i := 13) (N := some 35) (v := ?_) (a' := ?_) #[true, true, true, true, true, true, true, true, true, true, true, true, true, true, false] rfl rfl (any_of HT_.out (by kernel_rfl)) (fun _ _ _ h => h) (Or.inl ⟨by rfl, ?_⟩) ?_ ?_
         rotate_left
         ·
          intro w'; go_simp; with_reducible rfl
         rotate_left
         ·
          simp only [Act.put, sa', sb', sc', i64_w, i32_w]
          rfl
         refine last_ (i := 14) (N := none) #[true, true, true, true, true, true, true, true, true, true, true, true, true, true, true] rfl rfl (one_of HT_.out (by kernel_rfl)) (by decide) (fun K hK => ?_)
         have hs22 : w21.cell? ⟨gb274, 1, none⟩ = some (.int .i64 x275001_1) := (blk_cell BK274.out 1).trans rfl
         have hfs22 := blk_frozen BK274.out 1
         have hns22_0 := NB269_274.out
         have hns22_1 := NB270_274.out
         have hms22_0 := NB274_269.out
         have hms22_1 := NB274_270.out
         refine skip_ (w1 := ?_) (by rfl) rfl ?_ ?_
         rotate_left
         ·
          go_simp; rfl
         refine hK.out _ _ ?_
         clear hK K; refine done_ (done_of HT_.out (by kernel_rfl)) ?_
         try go_wp2
         go_loopg [38] k1 (fun kq v38 w' => ∃ (x38_2 : Int) (x275000_2 : List Bool) (u275000 : Value), v38 = .int .i64 x38_2 ∧ Aside0 (impl_Camp_after.l1 kq l1 (l1.length : Int) x18_1 (rd_L2 l1 x18_1) ((rd_L2 l1 x18_1).length : Int) x38_2 l0_0 a0_1 x275000_2 (wrap64 (x275001_1 + (wrap64 (1 - (wrap64 (2 * t278)))))) = some (r1, r2)) ∧ Aside0 (kq ≤ k1) ∧ Aside0 (Kd.R Kd.bool 4 w' w.heap.size (fun _ => True) u275000 x275000_2) ∧ Aside0 (w'.heap[gb269]? = some (.cells #[(.slice (some ad277) l0_0.length c0_0), .int .i64 a0_1] 28 (0, 0))) ∧ Aside0 (w'.heap[gb270]? = some (.cells #[(.slice none 0 0), .int .i64 0] 28 (0, 0))) ∧ Aside0 (w'.heap[gb274]? = some (.cells #[u275000, .int .i64 (wrap64 (x275001_1 + (wrap64 (1 - (wrap64 (2 * t278))))))] 28 (0, 0))) ∧ Aside0 (Below w.heap.size w w'))
         case atStart => exact ⟨(0), (x275000_1), (u275000), (by first | rfl | (simp; done) | (simp [*]; done)), H', ⟨Nat.le_refl _⟩, ⟨by (with_reducible repeat (first | apply ra' | apply rn' | apply rw')); exact Kd.R_mono (Kd.R_far (p := ⟨gb274, 1, none⟩) (Kd.R_types HO_275000.out BK274.out (by decide)) (fun _ hk => hk.2) (.int .i64 (wrap64 (x275001_1 + (wrap64 (1 - (wrap64 (2 * t278)))))))) (fun _ hk => trivial)⟩, ⟨by (with_reducible repeat (first | refine kn' ?_ _ | refine kd' ?_ | refine ka' ?_ _)); refine blk_far ?_ NB269_274.out _; (with_reducible repeat (first | refine kn' ?_ _ | refine kd' ?_ | refine ka' ?_ _)); exact BK269.out⟩, ⟨by (with_reducible repeat (first | refine kn' ?_ _ | refine kd' ?_ | refine ka' ?_ _)); refine blk_far ?_ NB270_274.out _; (with_reducible repeat (first | refine kn' ?_ _ | refine kd' ?_ | refine ka' ?_ _)); exact BK270.out⟩, ⟨by (with_reducible repeat (first | refine kn' ?_ _ | refine kd' ?_ | refine ka' ?_ _)); refine blk_put (cs := #[u275000, .int .i64 x275001_1]) ?_ 1 _ rfl; (with_reducible repeat (first | refine kn' ?_ _ | refine kd' ?_ | refine ka' ?_ _)); exact BK274.out⟩, ⟨by repeat (first | (with_reducible first | exact HB.out | apply ba' | apply bd' | apply be' | refine bs' ?_ GE269.out | refine bs' ?_ GE270.out | refine bs' ?_ GE274.out) | exact HB.out)⟩⟩
         case round =>
          clear H'; try clear c1
          try clear c2
          try clear p2
          try clear q2
          try clear hx2
          try clear qi2
          try clear p6
          try clear c9
          try clear c12
          try clear c14
          try clear c14b0
          try clear c15
          try clear c15b0
          try clear c16
          try clear c16b0
          try clear c17
          try clear c17b0
          try clear c17b1
          try clear c18
          try clear c18b0
          try clear c19
          try clear c19b0
          try clear hx275_0
          try clear hx276_0
          try clear hx277_0
          try clear p2
          try clear p275
          try clear p276
          try clear p277
          try clear q275
          try clear q276
          try clear q277
          obtain ⟨x38_2, x275000_2, u275000, rfl, HA, HK2, HO_275000, BK269, BK270, BK274, HB⟩ := hrel
          cases gk with
          | zero => exact absurd HA.out (by simp [impl_Camp_after.l1])
          | succ k2 =>
           have H := HA.out
           clear HA; simp only [impl_Camp_after.l1] at H
           by_cases c23 : x38_2 < ((rd_L2 l1 x18_1).length : Int)
           ·
            rw [if_pos c23] at H; have c23b0 : decide (x38_2 < ((rd_L2 l1 x18_1).length : Int)) = true := decide_eq_true c23
            clear c23; by_cases c24 : 0 ≤ x38_2
            ·
             rw [if_pos c24] at H; have c24b0 : decide (0 ≤ x38_2) = true := decide_eq_true c24
             clear c24; by_cases c25 : x38_2 < ((rd_L2 l1 x18_1).length : Int)
             ·
              rw [if_pos c25] at H; have c25b0 : decide (x38_2 < ((rd_L2 l1 x18_1).length : Int)) = true := decide_eq_true c25
              clear c25; by_cases c26 : 0 ≤ (rd (rd_L2 l1 x18_1) x38_2)
              ·
               rw [if_pos c26] at H; have c26b0 : decide (0 ≤ (rd (rd_L2 l1 x18_1) x38_2)) = true := decide_eq_true c26
               clear c26; by_cases c27 : (rd (rd_L2 l1 x18_1) x38_2) < (l0_0.length : Int)
               ·
                rw [if_pos c27] at H; have c27b0 : decide ((rd (rd_L2 l1 x18_1) x38_2) < (l0_0.length : Int)) = true := decide_eq_true c27
                clear c27; by_cases c28 : (rd (rd_L2 l1 x18_1) x38_2) < (x275000_2.length : Int)
                ·
                 rw [if_pos c28] at H; have c28b0 : decide ((rd (rd_L2 l1 x18_1) x38_2) < (x275000_2.length : Int)) = true := decide_eq_true c28
                 clear c28; obtain ⟨y281, hy281⟩ : ∃ y_ : List Bool, y_ = (x275000_2.set ((rd (rd_L2 l1 x18_1) x38_2) : Int).toNat (!(rdOf false l0_0 (rd (rd_L2 l1 x18_1) x38_2)))) := ⟨_, rfl⟩
                 replace H : (impl_Camp_after.l1 k2 l1 (l1.length : Int) x18_1 (rd_L2 l1 x18_1) ((rd_L2 l1 x18_1).length : Int) (wrap64 (x38_2 + 1)) l0_0 a0_1 y281 (wrap64 (x275001_1 + (wrap64 (1 - (wrap64 (2 * t278))))))) = some (r1, r2) := by first | (rw [hy281]; with_reducible exact H) | (have H2_ := (Option.bind_some _ _).symm.trans H; rw [hy281]; with_reducible exact H2_) | (have H2_ := (Option.bind_some _ _).symm.trans H; with_reducible exact H2_) | with_reducible exact H | (rw [hy281]; exact H) | exact H
                 have Ny281 := am' hy281
                 clear hy281; have H' := am' H
                 clear H; have p279 : 0 ≤ (x38_2 : Int) := of_decide_eq_true (by first | (with_reducible assumption) | assumption)
                 have q279 : x38_2 < ((rd_L2 l1 x18_1).length : Int) := of_decide_eq_true (by first | (with_reducible assumption) | assumption)
                 obtain ⟨ad279, e279, hx279_0⟩ := Kd.at_int HR275_0.out x38_2 p279 q279
                 obtain rfl : ad276 = ad279 := (by injection e279)
                 replace hx279_0 := (HB.out.cell (bl' w _ hx279_0)).trans hx279_0
                 replace p279 := eq_true p279
                 replace q279 := eq_true q279
                 try go_wp2
                 have n0_ := am' (rw' HO_275000.out)
                 have n1_ := am' (kd' BK269.out)
                 have n2_ := am' (kd' BK270.out)
                 have n3_ := am' (kd' BK274.out)
                 have n4_ := am' (be' HB.out)
                 clear HO_275000; clear BK269; clear BK270; clear BK274; clear HB; have HO_275000 := n0_; have BK269 := n1_; have BK270 := n2_; have BK274 := n3_; have HB := n4_; clear n0_ n1_ n2_ n3_ n4_; have p280 : 0 ≤ ((rd (rd_L2 l1 x18_1) x38_2) : Int) := of_decide_eq_true (by first | (with_reducible assumption) | assumption)
                 have q280 : (rd (rd_L2 l1 x18_1) x38_2) < (l0_0.length : Int) := of_decide_eq_true (by first | (with_reducible assumption) | assumption)
                 obtain ⟨ad280, e280, hx280_0⟩ := Kd.at_bool HR0_0.out (rd (rd_L2 l1 x18_1) x38_2) p280 q280
                 have hw280_0 := hx280_0; obtain rfl : ad277 = ad280 := (by injection e280)
                 replace hx280_0 := (HB.out.cell (bl' w _ hx280_0)).trans hx280_0
                 replace p280 := eq_true p280
                 replace q280 := eq_true q280
                 have p29 : 0 ≤ ((rd (rd_L2 l1 x18_1) x38_2) : Int) := of_decide_eq_true (by first | (with_reducible assumption) | assumption)
                 have q29 : ((rd (rd_L2 l1 x18_1) x38_2) : Int) < ((x275000_2.length : Int) : Int) := of_decide_eq_true (by first | (with_reducible assumption) | assumption)
                 obtain ⟨go29, co29, eo29, gb29, gl29, cl29, HG29⟩ := Kd.R_form HO_275000.out (by omega)
                 (first | cases eo29 | (injection eo29 with ea_ en_ ec_; (first | subst ea_ | (injection ea_ with ea_; subst ea_)); subst ec_; clear en_))
                 have GB29 := am' gb29
                 have GG29 := am' HG29
                 clear gb29 gl29 HG29; obtain ⟨hx29_0, hf29_0⟩ := Kd.R_celln false HO_275000.out ((rd (rd_L2 l1 x18_1) x38_2) : Int) p29 q29
                 replace p29 := eq_true p29
                 replace q29 := eq_true q29
                 have HP31 := Kd.R_putn HO_275000.out ((rd (rd_L2 l1 x18_1) x38_2) : Int) (!(rdOf false l0_0 (rd (rd_L2 l1 x18_1) x38_2)))
                 rw [← Ny281.out] at HP31
                 have HQ31 := am' HP31
                 clear HP31; refine start_ (n := 11) (S := fun w' => w'.cell? ⟨gb274, 0, none⟩ = some (.slice (some ⟨go29, 0, none⟩) x275000_2.length co29) ∧ w'.cell? ⟨gb274, 1, none⟩ = some (.int .i64 (wrap64 (x275001_1 + (wrap64 (1 - (wrap64 (2 * t278))))))) ∧ w'.cell? ⟨gb269, 0, none⟩ = some (.slice (some ad277) l0_0.length c0_0) ∧ w'.cell? ⟨gb269, 1, none⟩ = some (.int .i64 a0_1) ∧ w'.cell? (ad277.add ((rd (rd_L2 l1 x18_1) x38_2)).toNat) = some (.bool (rdOf false l0_0 (rd (rd_L2 l1 x18_1) x38_2)))) (ds := [10]) #[false, false, false, false, false, false, false, false, false, false, false] (by kernel_rfl) rfl rfl ⟨(blk_cell BK274.out 0).trans rfl, (blk_cell BK274.out 1).trans rfl, (blk_cell BK269.out 0).trans rfl, (blk_cell BK269.out 1).trans rfl, ((HB.out.cell (bl' w _ hw280_0)).trans hw280_0)⟩ (fun hHeld => ?_); refine with_tabW impl_Camp_after.tab9 impl_Camp_after.bits9 (fun HT_ HW_ => ?_)
                 generalize wr.drew = w30 at HO_275000 BK269 BK270 BK274 HB GG29 HQ31 hf29_0 hx280_0 hx29_0 hHeld ⊢
                 refine pure_ (i := 0) (N := some 42) (v := ?_) (a' := ?_) #[true, false, false, false, false, false, false, false, false, false, false] rfl rfl (any_of HT_.out (by kernel_rfl)) (fun _ _ _ h => h) (Or.inl ⟨by rfl, ?_⟩) ?_ ?_
                 rotate_left
                 ·
                  intro w'; go_simp; with_reducible rfl
                 rotate_left
                 ·
                  simp only [Act.put, sa', sb', sc', i64_w, i32_w]
                  rfl
                 refine pure_ (i := 2) (N := some 44) (v := ?_) (a' := ?_) #[true, false, true, false, false, false, false, false, false, false, false] rfl rfl (any_of HT_.out (by kernel_rfl)) (fun _ _ _ h => h) (Or.inl ⟨by rfl, ?_⟩) ?_ ?_
                 rotate_left
                 ·
                  intro w'; go_simp; with_reducible rfl
                 rotate_left
                 ·
                  simp only [Act.put, sa', sb', sc', i64_w, i32_w]
                  rfl
                 refine pure_ (i := 3) (N := some 45) (v := ?_) (a' := ?_) #[true, false, true, true, false, false, false, false, false, false, false] rfl rfl (any_of HT_.out (by kernel_rfl)) (fun _ _ _ h => h) (Or.inl ⟨by rfl, ?_⟩) ?_ ?_
                 rotate_left
                 ·
                  intro w'; go_simp; with_reducible rfl
                 rotate_left
                 ·
                  simp only [Act.put, sa', sb', sc', i64_w, i32_w]
                  rfl
                 refine pure_ (i := 5) (N := some 47) (v := ?_) (a' := ?_) #[true, false, true, true, false, true, false, false, false, false, false] rfl rfl (any_of HT_.out (by kernel_rfl)) (fun _ _ _ h => h) (Or.inl ⟨by rfl, ?_⟩) ?_ ?_
                 rotate_left
                 ·
                  intro w'; go_simp; with_reducible rfl
                 rotate_left
                 ·
                  simp only [Act.put, sa', sb', sc', i64_w, i32_w]
                  rfl
                 refine take_ (i := 1) (N := some 43) (v := ?_) (a' := ?_) #[true, true, true, true, false, true, false, false, false, false, false] rfl rfl (take_ofW HT_.out HW_.out (by kernel_rfl)) (fun _ _ _ h => h) (Or.inl ⟨by rfl, ?_⟩) hHeld ?_ ?_
                 rotate_left
                 ·
                  rintro w' ⟨s0, s1, s2, s3, s4⟩
                  go_simp; with_reducible rfl
                 rotate_left
                 ·
                  simp only [Act.put, sa', sb', sc', i64_w, i32_w]
                  rfl
                 refine take_ (i := 4) (N := some 46) (v := ?_) (a' := ?_) #[true, true, true, true, true, true, false, false, false, false, false] rfl rfl (take_ofW HT_.out HW_.out (by kernel_rfl)) (fun _ _ _ h => h) (Or.inl ⟨by rfl, ?_⟩) hHeld ?_ ?_
                 rotate_left
                 ·
                  rintro w' ⟨s0, s1, s2, s3, s4⟩
                  go_simp; with_reducible rfl
                 rotate_left
                 ·
                  simp only [Act.put, sa', sb', sc', i64_w, i32_w]
                  rfl
                 refine pure_ (i := 6) (N := some 48) (v := ?_) (a' := ?_) #[true, true, true, true, true, true, true, false, false, false, false] rfl rfl (any_of HT_.out (by kernel_rfl)) (fun _ _ _ h => h) (Or.inl ⟨by rfl, ?_⟩) ?_ ?_
                 rotate_left
                 ·
                  intro w'; go_simp; with_reducible rfl
                 rotate_left
                 ·
                  simp only [Act.put, sa', sb', sc', i64_w, i32_w]
                  rfl
                 refine take_ (i := 7) (N := some 49) (v := ?_) (a' := ?_) #[true, true, true, true, true, true, true, true, false, false, false] rfl rfl (take_ofW HT_.out HW_.out (by kernel_rfl)) (fun _ _ _ h => h) (Or.inl ⟨by rfl, ?_⟩) hHeld ?_ ?_
                 rotate_left
                 ·
                  rintro w' ⟨s0, s1, s2, s3, s4⟩
                  go_simp; with_reducible rfl
                 rotate_left
                 ·
                  simp only [Act.put, sa', sb', sc', i64_w, i32_w]
                  rfl
                 refine pure_ (i := 8) (N := some 50) (v := ?_) (a' := ?_) #[true, true, true, true, true, true, true, true, true, false, false] rfl rfl (any_of HT_.out (by kernel_rfl)) (fun _ _ _ h => h) (Or.inl ⟨by rfl, ?_⟩) ?_ ?_
                 rotate_left
                 ·
                  intro w'; go_simp; with_reducible rfl
                 rotate_left
                 ·
                  simp only [Act.put, sa', sb', sc', i64_w, i32_w]
                  rfl
                 refine pure_ (i := 9) (N := some 51) (v := ?_) (a' := ?_) #[true, true, true, true, true, true, true, true, true, true, false] rfl rfl (any_of HT_.out (by kernel_rfl)) (fun _ _ _ h => h) (Or.inl ⟨by rfl, ?_⟩) ?_ ?_
                 rotate_left
                 ·
                  intro w'; go_simp; with_reducible rfl
                 rotate_left
                 ·
                  simp only [Act.put, sa', sb', sc', i64_w, i32_w]
                  rfl
                 refine last_ (i := 10) (N := none) #[true, true, true, true, true, true, true, true, true, true, true] rfl rfl (one_of HT_.out (by kernel_rfl)) (by decide) (fun K hK => ?_)
                 refine skip_ (w1 := ?_) (by rfl) rfl ?_ ?_
                 rotate_left
                 ·
                  go_simp; rfl
                 refine hK.out _ _ ?_
                 clear hK K; refine done_ (done_of HT_.out (by kernel_rfl)) ?_
                 try go_wp2
                 go_roundg k2
                 case measure => have := HK1.out; have := HK2.out; omega
                 case rel => exact ⟨(wrap64 (x38_2 + 1)), (y281), (.slice (some ⟨go29, 0, none⟩) x275000_2.length co29), (by first | rfl | (simp; done) | (simp [*]; done)), H', ⟨by have := HK1.out; have := HK2.out; omega⟩, ⟨by (with_reducible repeat (first | apply ra' | apply rn' | apply rw')); exact HQ31.out⟩, ⟨by (with_reducible repeat (first | refine kn' ?_ _ | refine kd' ?_ | refine ka' ?_ _)); refine blk_far ?_ (by have h_ := Kd.R_ne HO_275000.out BK269.out (by decide); intro e_; exact h_ (by rw [e_]; rfl)) _; (with_reducible repeat (first | refine kn' ?_ _ | refine kd' ?_ | refine ka' ?_ _)); exact BK269.out⟩, ⟨by (with_reducible repeat (first | refine kn' ?_ _ | refine kd' ?_ | refine ka' ?_ _)); refine blk_far ?_ (by have h_ := Kd.R_ne HO_275000.out BK270.out (by decide); intro e_; exact h_ (by rw [e_]; rfl)) _; (with_reducible repeat (first | refine kn' ?_ _ | refine kd' ?_ | refine ka' ?_ _)); exact BK270.out⟩, ⟨by (with_reducible repeat (first | refine kn' ?_ _ | refine kd' ?_ | refine ka' ?_ _)); refine blk_far ?_ (by have h_ := Kd.R_ne HO_275000.out BK274.out (by decide); intro e_; exact h_ (by rw [e_]; rfl)) _; (with_reducible repeat (first | refine kn' ?_ _ | refine kd' ?_ | refine ka' ?_ _)); exact BK274.out⟩, ⟨by repeat (first | (with_reducible first | exact HB.out | apply ba' | apply bd' | apply be' | refine bs' ?_ GB29.out | refine bs' ?_ GE269.out | refine bs' ?_ GE270.out | refine bs' ?_ GE274.out) | exact HB.out)⟩⟩
                ·
                 rw [if_neg c28] at H; exact absurd H (by simp)
               ·
                rw [if_neg c27] at H; exact absurd H (by simp)
              ·
               rw [if_neg c26] at H; exact absurd H (by simp)
             ·
              rw [if_neg c25] at H; exact absurd H (by simp)
            ·
             rw [if_neg c24] at H; exact absurd H (by simp)
           ·
            rw [if_neg c23] at H; have c23b0 : decide (x38_2 < ((rd_L2 l1 x18_1).length : Int)) = false := decide_eq_false c23
            clear c23; have H' := am' H
            clear H; go_wp2
            go_roundg k2
            case measure => have := HK1.out; have := HK2.out; omega
            case rel => exact ⟨(wrap64 (x18_1 + 1)), (x275000_2), ((wrap64 (x275001_1 + (wrap64 (1 - (wrap64 (2 * t278))))))), (u275000), (by first | rfl | (simp; done) | (simp [*]; done)), H', ⟨by have := HK1.out; have := HK2.out; omega⟩, ⟨by (with_reducible repeat (first | apply ra' | apply rn' | apply rw')); exact HO_275000.out⟩, ⟨by (with_reducible repeat (first | refine kn' ?_ _ | refine kd' ?_ | refine ka' ?_ _)); exact BK269.out⟩, ⟨by (with_reducible repeat (first | refine kn' ?_ _ | refine kd' ?_ | refine ka' ?_ _)); exact BK270.out⟩, ⟨by (with_reducible repeat (first | refine kn' ?_ _ | refine kd' ?_ | refine ka' ?_ _)); exact BK274.out⟩, ⟨by repeat (first | (with_reducible first | exact HB.out | apply ba' | apply bd' | apply be' | refine bs' ?_ GE269.out | refine bs' ?_ GE270.out | refine bs' ?_ GE274.out) | exact HB.out)⟩⟩
        ·
         rw [if_neg c19] at H; exact absurd H (by simp)
       ·
        rw [if_neg c18] at H; exact absurd H (by simp)
      ·
       rw [if_neg c17] at H; exact absurd H (by simp)
     ·
      rw [if_neg c16] at H; exact absurd H (by simp)
    ·
     rw [if_neg c15] at H; exact absurd H (by simp)
   ·
    rw [if_neg c14] at H; have c14b0 : decide (x18_1 < (l1.length : Int)) = false := decide_eq_false c14
    clear c14; simp only [Option.some.injEq, Prod.mk.injEq] at H
    obtain ⟨rfl, rfl⟩ := H
    have hnb32 := NB274_269.out
    have hnc32 := NB269_274.out
    have hnb33 := NB274_270.out
    have hnc33 := NB270_274.out
    have hcz34_0 : wr.cell? ⟨gb274, 0, none⟩ = some (u275000) := (blk_cell BK274.out 0).trans rfl
    have hcz34_1 : wr.cell? ⟨gb274, 1, none⟩ = some (.int .i64 x275001_1) := (blk_cell BK274.out 1).trans rfl
    have hfz34_0 := blk_frozen BK274.out 0
    have hfz34_1 := blk_frozen BK274.out 1
    obtain ⟨Ao35, co35, eo35⟩ := Kd.R_slice HO_275000.out
    subst eo35; have hnb36 := NB270_269.out
    have hnc36 := NB269_270.out
    have hcz37_0 : wr.cell? ⟨gb270, 0, none⟩ = some (.slice none 0 0) := (blk_cell BK270.out 0).trans rfl
    have hcz37_1 : wr.cell? ⟨gb270, 1, none⟩ = some (.int .i64 0) := (blk_cell BK270.out 1).trans rfl
    have hfz37_0 := blk_frozen BK270.out 0
    have hfz37_1 := blk_frozen BK270.out 1
    go_wp2
    refine bodyPost_ret (results_cell_row rfl _ _ gb270 28 #[.slice Ao35 x275000_1.length co35, .int .i64 x275001_1] (0, 0) _ rfl (by (with_reducible repeat (first | refine kn' ?_ _ | refine kd' ?_ | refine ka' ?_ _)); refine blk_put (cs := #[.slice Ao35 x275000_1.length co35, .int .i64 0]) ?_ 1 _ rfl; (with_reducible repeat (first | refine kn' ?_ _ | refine kd' ?_ | refine ka' ?_ _)); refine blk_put (cs := #[.slice none 0 0, .int .i64 0]) ?_ 0 _ rfl; (with_reducible repeat (first | refine kn' ?_ _ | refine kd' ?_ | refine ka' ?_ _)); exact BK270.out) Try.underlying28 rfl (by kernel_rfl)) rfl ?_
    exact ⟨_, by first | rfl | (simp [errW_none, errW_some] <;> rfl) | (simp [*, errW_none, errW_some] <;> rfl), by (with_reducible repeat (first | apply ra' | apply rn' | apply rw')); exact Kd.R_mono (Kd.R_far (p := ⟨gb270, 1, none⟩) (Kd.R_far (p := ⟨gb270, 0, none⟩) (Kd.R_types HO_275000.out BK270.out (by decide)) (fun _ hk => hk.2) (.slice Ao35 x275000_1.length co35)) (fun _ hk => hk.2) (.int .i64 x275001_1)) (fun _ hk => trivial), by repeat (first | (with_reducible first | exact HB.out | apply ba' | apply bd' | apply be' | refine bs' ?_ GE269.out | refine bs' ?_ GE270.out | refine bs' ?_ GE274.out) | exact HB.out)⟩
end Go.Proofs.Ytpobeakggacdpaa.C10
