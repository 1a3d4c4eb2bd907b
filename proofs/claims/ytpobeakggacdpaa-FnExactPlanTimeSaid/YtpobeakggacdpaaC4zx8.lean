import Derived.Test.YtpobeakggacdpaaC4zx0
import Derived.Test.YtpobeakggacdpaaC4zx7
import Derived.Test.YtpobeakggacdpaaC4zAl
namespace Go.Proofs.Ytpobeakggacdpaa.C4
open Go.RowKit Go.Proofs.YtpobeakggacdpaaW.PrintWords Go.Proofs.YtpobeakggacdpaaW.PrintLast Go.Proofs.YtpobeakggacdpaaW.PrintMore Go.Proofs.Ytpobeakggacdpaa.H
attribute [local go_sem] max2_int min2_int max_two min_two max_three min_three max_four min_four
set_option linter.unusedVariables false
set_option linter.unusedSimpArgs false
def impl_Party_failing.l0 : Nat → List (List Int) → Int → Int → List Int → Int → List Bool → Bool → Option (List Bool × Bool × Int)
 | 0, _, _, _, _, _, _, _ => none
 | k + 1, x10, x11, x12, x235000, x235001, x236000, x236001 => if x12 < x11 then (if 0 ≤ x12 then (if x12 < (x10.length : Int) then ((impl_Party_canCross.f k x235000 x235001 x236000 x236001 (rd_L1 x10 x12)).bind fun t246 => (if t246 = true then ((impl_State_moved.f k x236000 x236001 (rd_L1 x10 x12)).bind fun bt247 => (impl_Party_failing.l0 k x10 x11 (wrap64 (x12 + 1)) x235000 x235001 bt247.1 bt247.2)) else (some (x236000, x236001, x12)))) else (none)) else (none)) else ((impl_State_moved.f k x236000 x236001 ([] : List Int)).bind fun bt237 => ((impl_State_moved.f k bt237.1 bt237.2 ([] : List Int)).bind fun bt241 => (some (bt241.1, bt241.2, (-1)))))
def impl_Party_failing.f (k : Nat) (l0_0 : List Int) (a0_1 : Int) (l1_0 : List Bool) (a1_1 : Bool) (l2 : List (List Int)) : Option (List Bool × Bool × Int) := impl_Party_failing.l0 k l2 (l2.length : Int) 0 l0_0 a0_1 l1_0 a1_1
set_option maxHeartbeats 8000000 in
set_option maxRecDepth 100000 in
theorem impl_Party_failing.calls (k : Nat) (A0_0 : Option Addr) (c0_0 : Nat) (l0_0 : List Int) (a0_1 : Int) (P1_0_ : Nat → Prop) (A1_0 : Option Addr) (c1_0 : Nat) (l1_0 : List Bool) (a1_1 : Bool) (A2 : Option Addr) (c2 : Nat) (l2 : List (List Int)) (r1 : List Bool) (r2 : Bool) (r3 : Int) (w : World) (hr0_0 : Kd.C (Kd.int .i64) w A0_0 l0_0.length l0_0) (hc0_0 : l0_0.length ≤ c0_0) (hs1_0 : Kd.V Kd.bool 4 w w.heap.size (fun k_ => P1_0_ k_) (.slice A1_0 l1_0.length c1_0) l1_0) (hr2 : Kd.C (Kd.slice 3 (Kd.int .i64)) w A2 l2.length l2) (hc2 : l2.length ≤ c2) (h : impl_Party_failing.f k l0_0 a0_1 l1_0 a1_1 l2 = some (r1, r2, r3)) :
  Calls Try.prog 138 #[.agg #[.slice A0_0 l0_0.length c0_0, .int .i64 a0_1], .agg #[.slice A1_0 l1_0.length c1_0, .bool a1_1], .slice A2 l2.length c2] w fun e w' => ∃ v0_ : Value, e = .returned (.tuple #[.agg #[v0_, .bool r2], .int .i64 r3]) ∧ Kd.V Kd.bool 4 w' w.heap.size (fun k_ => (P1_0_ k_ ∨ w.heap.size ≤ k_)) v0_ r1 ∧ Below w.heap.size w w' := by
 have hu69 := Try.underlying69
 have hu71 := Try.underlying71
 have HR0_0 := am' hr0_0
 have HC0_0 := am' hc0_0
 clear hr0_0 hc0_0; have HO1_0 := am' (show Kd.V Kd.bool 4 w w.heap.size (fun k_ => (P1_0_ k_ ∨ w.heap.size ≤ k_)) (.slice A1_0 l1_0.length c1_0) l1_0 from Kd.V_mono hs1_0 (fun k_ hk => .inl hk))
 have HR2 := am' hr2
 have HC2 := am' hc2
 clear hr2 hc2; have HB := am' (Below.refl w.heap.size w)
 have H : (impl_Party_failing.l0 k l2 (l2.length : Int) 0 l0_0 a0_1 l1_0 a1_1) = some (r1, r2, r3) := h
 clear h; have H' := am' H
 clear H; go_enter Try.func138, Try.ntmps138
 go_wp2_with (first | ((with_reducible refine gate_dst (N := 3) rfl ?_); refine box_event ?hg (N := 3) ?hd (cs := #[.slice A0_0 l0_0.length c0_0, .int .i64 a0_1]) (t := 69) ?hr ?_; (case hd => rfl); (case hg => rfl); (case hr => first | (go_simp; done) | (go_simp; rfl)); intro gb234 hg w4 hbox hb; have n0_ := am' (Kd.V_below (Kd.V_elderB (by (with_reducible repeat (first | apply Kd.V_alloc | apply Kd.V_drewN | apply Kd.V_drew)); exact HO1_0.out) gb234 (Nat.le_of_eq hg.symm)) hb); have n1_ := am' (below_step (by repeat (first | (with_reducible first | exact HB.out | apply ba' | apply bd' | apply be') | exact HB.out)) hb); have n2_ := am' (hbox); have n3_ := am' ((by rw [hg]; exact (below_size (by repeat (first | (with_reducible first | exact HB.out | apply ba' | apply bd' | apply be') | exact HB.out))) : w.heap.size ≤ gb234)); have n4_ := am' ((by rw [hg]; exact (below_size (by repeat (first | (with_reducible first | exact HB.out | apply ba' | apply bd' | apply be') | exact HB.out))) : w.heap.size ≤ gb234)); clear HO1_0; clear HB; have HO1_0 := n0_; have HB := n1_; have BK234 := n2_; have GW234 := n3_; have GE234 := n4_; clear n0_ n1_ n2_ n3_ n4_; clear hb hbox hg) | ((with_reducible refine gate_dst (N := 4) rfl ?_); refine box_event ?hg (N := 4) ?hd (cs := #[.slice A1_0 l1_0.length c1_0, .bool a1_1]) (t := 71) ?hr ?_; (case hd => rfl); (case hg => rfl); (case hr => first | (go_simp; done) | (go_simp; rfl)); intro gb235 hg w5 hbox hb; have n0_ := am' (Kd.V_below (Kd.V_elderB (by (with_reducible repeat (first | apply Kd.V_alloc | apply Kd.V_drewN | apply Kd.V_drew)); exact HO1_0.out) gb235 (Nat.le_of_eq hg.symm)) hb); have n1_ := am' (blk_below (g := gb234) (o := .cells #[.slice A0_0 l0_0.length c0_0, .int .i64 a0_1] 69 (0, 0)) (by (with_reducible repeat (first | refine kn' ?_ _ | refine kd' ?_ | refine ka' ?_ _)); exact BK234.out) hb); have n2_ := am' (below_step (by repeat (first | (with_reducible first | exact HB.out | apply ba' | apply bd' | apply be' | refine bs' ?_ GE234.out) | exact HB.out)) hb); have n3_ := am' (hbox); have n4_ := am' ((by rw [hg]; exact (below_size (by repeat (first | (with_reducible first | exact HB.out | apply ba' | apply bd' | apply be' | refine bs' ?_ GE234.out) | exact HB.out))) : w.heap.size ≤ gb235)); have n5_ := am' ((by rw [hg]; exact (below_size (by repeat (first | (with_reducible first | exact HB.out | apply ba' | apply bd' | apply be' | refine bs' ?_ GE234.out) | exact HB.out))) : w.heap.size ≤ gb235)); have n6_ := am' ((by rw [hg]; exact Nat.ne_of_lt (blk_lt (g := gb234) (o := .cells #[.slice A0_0 l0_0.length c0_0, .int .i64 a0_1] 69 (0, 0)) (by (with_reducible repeat (first | refine kn' ?_ _ | refine kd' ?_ | refine ka' ?_ _)); exact BK234.out)) : gb234 ≠ gb235)); have n7_ := am' ((by rw [hg]; exact Nat.ne_of_gt (blk_lt (g := gb234) (o := .cells #[.slice A0_0 l0_0.length c0_0, .int .i64 a0_1] 69 (0, 0)) (by (with_reducible repeat (first | refine kn' ?_ _ | refine kd' ?_ | refine ka' ?_ _)); exact BK234.out)) : gb235 ≠ gb234)); clear HO1_0; clear BK234; clear HB; have HO1_0 := n0_; have BK234 := n1_; have HB := n2_; have BK235 := n3_; have GW235 := n4_; have GE235 := n5_; have NB234_235 := n6_; have NB235_234 := n7_; clear n0_ n1_ n2_ n3_ n4_ n5_ n6_ n7_; clear hb hbox hg) | ((with_reducible refine gate_dst (N := 6) rfl ?_); refine box_event ?hg (N := 6) ?hd (cs := #[.slice none 0 0, .bool false]) (t := 71) ?hr ?_; (case hd => rfl); (case hg => rfl); (case hr => first | (go_simp; done) | (go_simp; rfl)); intro gb236 hg w6 hbox hb; have n0_ := am' (Kd.V_below (Kd.V_elderB (by (with_reducible repeat (first | apply Kd.V_alloc | apply Kd.V_drewN | apply Kd.V_drew)); exact HO1_0.out) gb236 (Nat.le_of_eq hg.symm)) hb); have n1_ := am' (blk_below (g := gb234) (o := .cells #[.slice A0_0 l0_0.length c0_0, .int .i64 a0_1] 69 (0, 0)) (by (with_reducible repeat (first | refine kn' ?_ _ | refine kd' ?_ | refine ka' ?_ _)); exact BK234.out) hb); have n2_ := am' (blk_below (g := gb235) (o := .cells #[.slice A1_0 l1_0.length c1_0, .bool a1_1] 71 (0, 0)) (by (with_reducible repeat (first | refine kn' ?_ _ | refine kd' ?_ | refine ka' ?_ _)); exact BK235.out) hb); have n3_ := am' (below_step (by repeat (first | (with_reducible first | exact HB.out | apply ba' | apply bd' | apply be' | refine bs' ?_ GE234.out | refine bs' ?_ GE235.out) | exact HB.out)) hb); have n4_ := am' (hbox); have n5_ := am' ((by rw [hg]; exact (below_size (by repeat (first | (with_reducible first | exact HB.out | apply ba' | apply bd' | apply be' | refine bs' ?_ GE234.out | refine bs' ?_ GE235.out) | exact HB.out))) : w.heap.size ≤ gb236)); have n6_ := am' ((by rw [hg]; exact (below_size (by repeat (first | (with_reducible first | exact HB.out | apply ba' | apply bd' | apply be' | refine bs' ?_ GE234.out | refine bs' ?_ GE235.out) | exact HB.out))) : w.heap.size ≤ gb236)); have n7_ := am' ((by rw [hg]; exact Nat.ne_of_lt (blk_lt (g := gb234) (o := .cells #[.slice A0_0 l0_0.length c0_0, .int .i64 a0_1] 69 (0, 0)) (by (with_reducible repeat (first | refine kn' ?_ _ | refine kd' ?_ | refine ka' ?_ _)); exact BK234.out)) : gb234 ≠ gb236)); have n8_ := am' ((by rw [hg]; exact Nat.ne_of_gt (blk_lt (g := gb234) (o := .cells #[.slice A0_0 l0_0.length c0_0, .int .i64 a0_1] 69 (0, 0)) (by (with_reducible repeat (first | refine kn' ?_ _ | refine kd' ?_ | refine ka' ?_ _)); exact BK234.out)) : gb236 ≠ gb234)); have n9_ := am' ((by rw [hg]; exact Nat.ne_of_lt (blk_lt (g := gb235) (o := .cells #[.slice A1_0 l1_0.length c1_0, .bool a1_1] 71 (0, 0)) (by (with_reducible repeat (first | refine kn' ?_ _ | refine kd' ?_ | refine ka' ?_ _)); exact BK235.out)) : gb235 ≠ gb236)); have n10_ := am' ((by rw [hg]; exact Nat.ne_of_gt (blk_lt (g := gb235) (o := .cells #[.slice A1_0 l1_0.length c1_0, .bool a1_1] 71 (0, 0)) (by (with_reducible repeat (first | refine kn' ?_ _ | refine kd' ?_ | refine ka' ?_ _)); exact BK235.out)) : gb236 ≠ gb235)); clear HO1_0; clear BK234; clear BK235; clear HB; have HO1_0 := n0_; have BK234 := n1_; have BK235 := n2_; have HB := n3_; have BK236 := n4_; have GW236 := n5_; have GE236 := n6_; have NB234_236 := n7_; have NB236_234 := n8_; have NB235_236 := n9_; have NB236_235 := n10_; clear n0_ n1_ n2_ n3_ n4_ n5_ n6_ n7_ n8_ n9_ n10_; clear hb hbox hg))
 go_loopg [12] k (fun kq v12 w' => ∃ (x12_1 : Int) (x236000_1 : List Bool) (x236001_1 : Bool) (x237001_1 : Bool) (u236000 : Value), v12 = .int .i64 x12_1 ∧ Aside0 (impl_Party_failing.l0 kq l2 (l2.length : Int) x12_1 l0_0 a0_1 x236000_1 x236001_1 = some (r1, r2, r3)) ∧ Aside0 (kq ≤ k) ∧ Aside0 (Kd.V Kd.bool 4 w' w.heap.size (fun k_ => (P1_0_ k_ ∨ w.heap.size ≤ k_) ∧ k_ ≠ gb234 ∧ k_ ≠ gb235 ∧ k_ ≠ gb236) u236000 x236000_1) ∧ Aside0 (w'.heap[gb234]? = some (.cells #[(.slice A0_0 l0_0.length c0_0), .int .i64 a0_1] 69 (0, 0))) ∧ Aside0 (w'.heap[gb235]? = some (.cells #[u236000, .bool x236001_1] 71 (0, 0))) ∧ Aside0 (w'.heap[gb236]? = some (.cells #[(.slice none 0 0), .bool x237001_1] 71 (0, 0))) ∧ Aside0 (Below w.heap.size w w'))
 case atStart => exact ⟨(0), (l1_0), (a1_1), (false), (.slice A1_0 l1_0.length c1_0), (by first | rfl | (simp; done) | (simp [*]; done)), H', ⟨Nat.le_refl _⟩, ⟨by (with_reducible repeat (first | apply Kd.V_alloc | apply Kd.V_drewN | apply Kd.V_drew)); exact Kd.V_mono HO1_0.out (fun _ hk => ⟨hk.1.1.1, ⟨hk.1.1.2, ⟨hk.1.2, hk.2⟩⟩⟩)⟩, ⟨by (with_reducible repeat (first | refine kn' ?_ _ | refine kd' ?_ | refine ka' ?_ _)); exact BK234.out⟩, ⟨by (with_reducible repeat (first | refine kn' ?_ _ | refine kd' ?_ | refine ka' ?_ _)); exact BK235.out⟩, ⟨by (with_reducible repeat (first | refine kn' ?_ _ | refine kd' ?_ | refine ka' ?_ _)); exact BK236.out⟩, ⟨by repeat (first | (with_reducible first | exact HB.out | apply ba' | apply bd' | apply be' | refine bs' ?_ GE234.out | refine bs' ?_ GE235.out | refine bs' ?_ GE236.out) | exact HB.out)⟩⟩
 case round =>
  clear H'; try clear c1
  try clear c2
  try clear p2
  obtain ⟨x12_1, x236000_1, x236001_1, x237001_1, u236000, rfl, HA, HK1, HO_236000, BK234, BK235, BK236, HB⟩ := hrel
  cases gk with
  | zero => exact absurd HA.out (by simp [impl_Party_failing.l0])
  | succ k1 =>
   have H := HA.out
   clear HA; simp only [impl_Party_failing.l0] at H
   by_cases c7 : x12_1 < (l2.length : Int)
   ·
    rw [if_pos c7] at H; have c7b0 : decide (x12_1 < (l2.length : Int)) = true := decide_eq_true c7
    clear c7; by_cases c8 : 0 ≤ x12_1
    ·
     rw [if_pos c8] at H; have c8b0 : decide (0 ≤ x12_1) = true := decide_eq_true c8
     clear c8; by_cases c9 : x12_1 < (l2.length : Int)
     ·
      rw [if_pos c9] at H; have c9b0 : decide (x12_1 < (l2.length : Int)) = true := decide_eq_true c9
      clear c9; replace H := Option.bind_eq_some_iff.mp H
      obtain ⟨t246, A100, H⟩ := H
      replace H : (if t246 = true then ((impl_State_moved.f k1 x236000_1 x236001_1 (rd_L1 l2 x12_1)).bind fun bt247 => (impl_Party_failing.l0 k1 l2 (l2.length : Int) (wrap64 (x12_1 + 1)) l0_0 a0_1 bt247.1 bt247.2)) else (some (x236000_1, x236001_1, x12_1))) = some (r1, r2, r3) := H
      have A10 := am' A100
      clear A100; by_cases c11 : t246 = true
      ·
       subst c11; have H1 : ((impl_State_moved.f k1 x236000_1 x236001_1 (rd_L1 l2 x12_1)).bind fun bt247 => (impl_Party_failing.l0 k1 l2 (l2.length : Int) (wrap64 (x12_1 + 1)) l0_0 a0_1 bt247.1 bt247.2)) = some (r1, r2, r3) := by rw [if_pos rfl] at H; exact H
       clear H; have H := H1; clear H1; replace H := Option.bind_eq_some_iff.mp H
       obtain ⟨⟨t247, t250⟩, A120, H⟩ := H
       replace H : (impl_Party_failing.l0 k1 l2 (l2.length : Int) (wrap64 (x12_1 + 1)) l0_0 a0_1 t247 t250) = some (r1, r2, r3) := H
       have A12 := am' A120
       clear A120; have H' := am' H
       clear H; have p245 : 0 ≤ (x12_1 : Int) := of_decide_eq_true (by first | (with_reducible assumption) | assumption)
       have q245 : x12_1 < (l2.length : Int) := of_decide_eq_true (by first | (with_reducible assumption) | assumption)
       obtain ⟨ad245, A245_0, c245_0, e245, hx245_0, hl245_0, hi245_0⟩ := at_L1 HR2.out x12_1 p245 q245
       cases e245
       replace hx245_0 := (HB.out.cell (bl' w _ hx245_0)).trans hx245_0
       have HR245_0 := am' hi245_0
       have HC245_0 := am' hl245_0
       clear hi245_0 hl245_0; replace p245 := eq_true p245
       replace q245 := eq_true q245
       have hnb13 := NB234_235.out
       have hnc13 := NB235_234.out
       have hnb14 := NB234_236.out
       have hnc14 := NB236_234.out
       have hcz15_0 : wr.cell? ⟨gb234, 0, none⟩ = some (.slice A0_0 l0_0.length c0_0) := (blk_cell BK234.out 0).trans rfl
       have hcz15_1 : wr.cell? ⟨gb234, 1, none⟩ = some (.int .i64 a0_1) := (blk_cell BK234.out 1).trans rfl
       have hfz15_0 := blk_frozen BK234.out 0
       have hfz15_1 := blk_frozen BK234.out 1
       have hnb16 := NB235_236.out
       have hnc16 := NB236_235.out
       have hcz17_0 : wr.cell? ⟨gb235, 0, none⟩ = some (u236000) := (blk_cell BK235.out 0).trans rfl
       have hcz17_1 : wr.cell? ⟨gb235, 1, none⟩ = some (.bool x236001_1) := (blk_cell BK235.out 1).trans rfl
       have hfz17_0 := blk_frozen BK235.out 0
       have hfz17_1 := blk_frozen BK235.out 1
       obtain ⟨Ao18, co18, eo18⟩ := Kd.V_slice HO_236000.out
       subst eo18; go_wp2_with (first | ((with_reducible refine gate_callee (f := 149) rfl ?_); refine goesL_ (some 20) rfl rfl Try.func149 (by kernel_rfl) rfl #[.agg #[.slice A0_0 l0_0.length c0_0, .int .i64 a0_1], .agg #[.slice Ao18 x236000_1.length co18, .bool x236001_1], .slice A245_0 (rd_L1 l2 x12_1).length c245_0] rfl (by (try simp only [List.map_toArray, List.map_cons, List.map_nil]); first | done | rfl | (simp only [List.length_drop, List.length_take]; rfl)) ?_; (with_reducible refine (impl_Party_canCross.calls k1 _ _ l0_0 a0_1 _ _ x236000_1 x236001_1 _ _ (rd_L1 l2 x12_1) true _ ?side1 ?side2 ?side3 ?side4 ?side5 ?side6 A10.out).mono ?_); (case side1 => repeat (first | exact (Kd.C_below HR0_0.out HB.out) | (with_reducible refine ca' ?_ _) | (with_reducible refine cn' ?_ _) | (with_reducible refine cd' ?_))); (case side2 => exact HC0_0.out); (case side3 => repeat (first | exact (Kd.V_reads' HO_236000.out).2.2 | (with_reducible refine ca' ?_ _) | (with_reducible refine cn' ?_ _) | (with_reducible refine cd' ?_))); (case side4 => exact (Kd.V_reads' HO_236000.out).2.1); (case side5 => repeat (first | exact (Kd.C_below HR245_0.out HB.out) | (with_reducible refine ca' ?_ _) | (with_reducible refine cn' ?_ _) | (with_reducible refine cd' ?_))); (case side6 => exact HC245_0.out); rintro e w19 ⟨rfl, hb⟩; refine ⟨_, rfl, ?_⟩; have n0_ := am' (Kd.V_below (by (with_reducible repeat (first | apply Kd.V_alloc | apply Kd.V_drewN | apply Kd.V_drew)); exact HO_236000.out) hb); have n1_ := am' (blk_below (g := gb234) (o := .cells #[.slice A0_0 l0_0.length c0_0, .int .i64 a0_1] 69 (0, 0)) (by (with_reducible repeat (first | refine kn' ?_ _ | refine kd' ?_ | refine ka' ?_ _)); exact BK234.out) hb); have n2_ := am' (blk_below (g := gb235) (o := .cells #[.slice Ao18 x236000_1.length co18, .bool x236001_1] 71 (0, 0)) (by (with_reducible repeat (first | refine kn' ?_ _ | refine kd' ?_ | refine ka' ?_ _)); exact BK235.out) hb); have n3_ := am' (blk_below (g := gb236) (o := .cells #[.slice none 0 0, .bool x237001_1] 71 (0, 0)) (by (with_reducible repeat (first | refine kn' ?_ _ | refine kd' ?_ | refine ka' ?_ _)); exact BK236.out) hb); have n4_ := am' (below_step (by repeat (first | (with_reducible first | exact HB.out | apply ba' | apply bd' | apply be' | refine bs' ?_ GE234.out | refine bs' ?_ GE235.out | refine bs' ?_ GE236.out) | exact HB.out)) hb); clear HO_236000; clear BK234; clear BK235; clear BK236; clear HB; have HO_236000 := n0_; have BK234 := n1_; have BK235 := n2_; have BK236 := n3_; have HB := n4_; clear n0_ n1_ n2_ n3_ n4_; (try clear hb); (try clear hb2); (try clear hk); (try clear hi); have hcz20_0 : w19.cell? ⟨gb235, 0, none⟩ = some (.slice Ao18 x236000_1.length co18) := (blk_cell BK235.out 0).trans rfl; have hcz20_1 : w19.cell? ⟨gb235, 1, none⟩ = some (.bool x236001_1) := (blk_cell BK235.out 1).trans rfl; have hfz20_0 := blk_frozen BK235.out 0; have hfz20_1 := blk_frozen BK235.out 1) | ((with_reducible refine gate_callee (f := 150) rfl ?_); refine goesL_ (some 26) rfl rfl Try.func150 (by kernel_rfl) rfl #[.agg #[.slice Ao18 x236000_1.length co18, .bool x236001_1], .slice A245_0 (rd_L1 l2 x12_1).length c245_0] rfl (by (try simp only [List.map_toArray, List.map_cons, List.map_nil]); first | done | rfl | (simp only [List.length_drop, List.length_take]; rfl)) ?_; (with_reducible refine (impl_State_moved.calls k1 _ _ x236000_1 x236001_1 _ _ (rd_L1 l2 x12_1) t247 t250 _ ?side1 ?side2 ?side3 ?side4 A12.out).mono ?_); (case side1 => repeat (first | exact (Kd.V_reads' HO_236000.out).2.2 | (with_reducible refine ca' ?_ _) | (with_reducible refine cn' ?_ _) | (with_reducible refine cd' ?_))); (case side2 => exact (Kd.V_reads' HO_236000.out).2.1); (case side3 => repeat (first | exact (Kd.C_below HR245_0.out HB.out) | (with_reducible refine ca' ?_ _) | (with_reducible refine cn' ?_ _) | (with_reducible refine cd' ?_))); (case side4 => exact HC245_0.out); rintro e w21 ⟨v248, rfl, ho0, hb⟩; refine ⟨_, rfl, ?_⟩; have n0_ := am' (Kd.V_elder' (by (with_reducible repeat (first | apply Kd.V_alloc | apply Kd.V_drewN | apply Kd.V_drew)); exact HO_236000.out) (Kd.R_base ho0) hb); have n1_ := am' (Kd.R_lower (Kd.R_newM (M := fun k_ => (w.heap.size ≤ k_)) ho0 (below_size (by repeat (first | (with_reducible first | exact HB.out | apply ba' | apply bd' | apply be' | refine bs' ?_ GE234.out | refine bs' ?_ GE235.out | refine bs' ?_ GE236.out) | exact HB.out))) (fun k_ h_ => h_)) (below_size (by repeat (first | (with_reducible first | exact HB.out | apply ba' | apply bd' | apply be' | refine bs' ?_ GE234.out | refine bs' ?_ GE235.out | refine bs' ?_ GE236.out) | exact HB.out)))); have n2_ := am' (blk_below (g := gb234) (o := .cells #[.slice A0_0 l0_0.length c0_0, .int .i64 a0_1] 69 (0, 0)) (by (with_reducible repeat (first | refine kn' ?_ _ | refine kd' ?_ | refine ka' ?_ _)); exact BK234.out) hb); have n3_ := am' (blk_below (g := gb235) (o := .cells #[.slice Ao18 x236000_1.length co18, .bool x236001_1] 71 (0, 0)) (by (with_reducible repeat (first | refine kn' ?_ _ | refine kd' ?_ | refine ka' ?_ _)); exact BK235.out) hb); have n4_ := am' (blk_below (g := gb236) (o := .cells #[.slice none 0 0, .bool x237001_1] 71 (0, 0)) (by (with_reducible repeat (first | refine kn' ?_ _ | refine kd' ?_ | refine ka' ?_ _)); exact BK236.out) hb); have n5_ := am' (below_step (by repeat (first | (with_reducible first | exact HB.out | apply ba' | apply bd' | apply be' | refine bs' ?_ GE234.out | refine bs' ?_ GE235.out | refine bs' ?_ GE236.out) | exact HB.out)) hb); clear HO_236000; clear BK234; clear BK235; clear BK236; clear HB; have HO_236000 := n0_; have HO249 := n1_; have BK234 := n2_; have BK235 := n3_; have BK236 := n4_; have HB := n5_; clear n0_ n1_ n2_ n3_ n4_ n5_; (try clear hb); (try clear hb2); (try clear hk); (try clear hi); (try clear ho0); obtain ⟨Ao22, co22, eo22⟩ := Kd.R_slice HO249.out; subst eo22; have hcz23_0 : w21.cell? ⟨gb235, 0, none⟩ = some (.slice Ao18 x236000_1.length co18) := (blk_cell BK235.out 0).trans rfl; have hcz23_1 : w21.cell? ⟨gb235, 1, none⟩ = some (.bool x236001_1) := (blk_cell BK235.out 1).trans rfl; have hfz23_0 := blk_frozen BK235.out 0; have hfz23_1 := blk_frozen BK235.out 1))
       go_roundg k1
       case measure => have := HK1.out; omega
       case rel => exact ⟨(wrap64 (x12_1 + 1)), (t247), (t250), (x237001_1), (.slice Ao22 t247.length co22), (by first | rfl | (simp; done) | (simp [*]; done)), H', ⟨by have := HK1.out; omega⟩, ⟨Kd.V_mono (Kd.R_V (by (with_reducible repeat (first | apply ra' | apply rn' | apply rw')); exact Kd.R_mono (ok' := (fun k_ => (w.heap.size ≤ k_) ∧ k_ ≠ gb234 ∧ k_ ≠ gb235 ∧ k_ ≠ gb236)) (Kd.R_far (p := ⟨gb235, 1, none⟩) (Kd.R_far (p := ⟨gb235, 0, none⟩) (Kd.R_types (Kd.R_types (Kd.R_types (Kd.R_types HO249.out BK234.out (by decide)) BK235.out (by decide)) BK236.out (by decide)) BK235.out (by decide)) (fun _ hk => hk.2) (.slice Ao22 t247.length co22)) (fun _ hk => hk.2) (.bool t250)) (fun _ hk => ⟨hk.1.1.1.1.1, ⟨hk.1.1.1.2, ⟨hk.1.1.2, hk.1.2⟩⟩⟩))) (fun k_ hk => by first | exact ⟨(.inr (hk.1)), hk.2⟩ | exact (.inr (hk)))⟩, ⟨by (with_reducible repeat (first | refine kn' ?_ _ | refine kd' ?_ | refine ka' ?_ _)); refine blk_far ?_ NB234_235.out _; (with_reducible repeat (first | refine kn' ?_ _ | refine kd' ?_ | refine ka' ?_ _)); refine blk_far ?_ NB234_235.out _; (with_reducible repeat (first | refine kn' ?_ _ | refine kd' ?_ | refine ka' ?_ _)); exact BK234.out⟩, ⟨by (with_reducible repeat (first | refine kn' ?_ _ | refine kd' ?_ | refine ka' ?_ _)); refine blk_put (cs := #[.slice Ao22 t247.length co22, .bool x236001_1]) ?_ 1 _ rfl; (with_reducible repeat (first | refine kn' ?_ _ | refine kd' ?_ | refine ka' ?_ _)); refine blk_put (cs := #[.slice Ao18 x236000_1.length co18, .bool x236001_1]) ?_ 0 _ rfl; (with_reducible repeat (first | refine kn' ?_ _ | refine kd' ?_ | refine ka' ?_ _)); exact BK235.out⟩, ⟨by (with_reducible repeat (first | refine kn' ?_ _ | refine kd' ?_ | refine ka' ?_ _)); refine blk_far ?_ NB236_235.out _; (with_reducible repeat (first | refine kn' ?_ _ | refine kd' ?_ | refine ka' ?_ _)); refine blk_far ?_ NB236_235.out _; (with_reducible repeat (first | refine kn' ?_ _ | refine kd' ?_ | refine ka' ?_ _)); exact BK236.out⟩, ⟨by repeat (first | (with_reducible first | exact HB.out | apply ba' | apply bd' | apply be' | refine bs' ?_ GE234.out | refine bs' ?_ GE235.out | refine bs' ?_ GE236.out) | exact HB.out)⟩⟩
      ·
       replace c11 := Bool.eq_false_iff.mpr c11
       subst c11; have H1 : (some (x236000_1, x236001_1, x12_1)) = some (r1, r2, r3) := by rw [if_neg (show ¬ (false = true) by decide)] at H; exact H
       clear H; have H := H1; clear H1; simp only [Option.some.injEq, Prod.mk.injEq] at H
       obtain ⟨rfl, rfl, rfl⟩ := H
       have p245 : 0 ≤ (x12_1 : Int) := of_decide_eq_true (by first | (with_reducible assumption) | assumption)
       have q245 : x12_1 < (l2.length : Int) := of_decide_eq_true (by first | (with_reducible assumption) | assumption)
       obtain ⟨ad245, A245_0, c245_0, e245, hx245_0, hl245_0, hi245_0⟩ := at_L1 HR2.out x12_1 p245 q245
       cases e245
       replace hx245_0 := (HB.out.cell (bl' w _ hx245_0)).trans hx245_0
       have HR245_0 := am' hi245_0
       have HC245_0 := am' hl245_0
       clear hi245_0 hl245_0; replace p245 := eq_true p245
       replace q245 := eq_true q245
       have hnb24 := NB234_235.out
       have hnc24 := NB235_234.out
       have hnb25 := NB234_236.out
       have hnc25 := NB236_234.out
       have hcz26_0 : wr.cell? ⟨gb234, 0, none⟩ = some (.slice A0_0 l0_0.length c0_0) := (blk_cell BK234.out 0).trans rfl
       have hcz26_1 : wr.cell? ⟨gb234, 1, none⟩ = some (.int .i64 a0_1) := (blk_cell BK234.out 1).trans rfl
       have hfz26_0 := blk_frozen BK234.out 0
       have hfz26_1 := blk_frozen BK234.out 1
       have hnb27 := NB235_236.out
       have hnc27 := NB236_235.out
       have hcz28_0 : wr.cell? ⟨gb235, 0, none⟩ = some (u236000) := (blk_cell BK235.out 0).trans rfl
       have hcz28_1 : wr.cell? ⟨gb235, 1, none⟩ = some (.bool x236001_1) := (blk_cell BK235.out 1).trans rfl
       have hfz28_0 := blk_frozen BK235.out 0
       have hfz28_1 := blk_frozen BK235.out 1
       obtain ⟨Ao29, co29, eo29⟩ := Kd.V_slice HO_236000.out
       subst eo29; go_wp2_with (first | ((with_reducible refine gate_callee (f := 149) rfl ?_); refine goesL_ (some 20) rfl rfl Try.func149 (by kernel_rfl) rfl #[.agg #[.slice A0_0 l0_0.length c0_0, .int .i64 a0_1], .agg #[.slice Ao29 x236000_1.length co29, .bool x236001_1], .slice A245_0 (rd_L1 l2 x12_1).length c245_0] rfl (by (try simp only [List.map_toArray, List.map_cons, List.map_nil]); first | done | rfl | (simp only [List.length_drop, List.length_take]; rfl)) ?_; (with_reducible refine (impl_Party_canCross.calls k1 _ _ l0_0 a0_1 _ _ x236000_1 x236001_1 _ _ (rd_L1 l2 x12_1) false _ ?side1 ?side2 ?side3 ?side4 ?side5 ?side6 A10.out).mono ?_); (case side1 => repeat (first | exact (Kd.C_below HR0_0.out HB.out) | (with_reducible refine ca' ?_ _) | (with_reducible refine cn' ?_ _) | (with_reducible refine cd' ?_))); (case side2 => exact HC0_0.out); (case side3 => repeat (first | exact (Kd.V_reads' HO_236000.out).2.2 | (with_reducible refine ca' ?_ _) | (with_reducible refine cn' ?_ _) | (with_reducible refine cd' ?_))); (case side4 => exact (Kd.V_reads' HO_236000.out).2.1); (case side5 => repeat (first | exact (Kd.C_below HR245_0.out HB.out) | (with_reducible refine ca' ?_ _) | (with_reducible refine cn' ?_ _) | (with_reducible refine cd' ?_))); (case side6 => exact HC245_0.out); rintro e w30 ⟨rfl, hb⟩; refine ⟨_, rfl, ?_⟩; have n0_ := am' (Kd.V_below (by (with_reducible repeat (first | apply Kd.V_alloc | apply Kd.V_drewN | apply Kd.V_drew)); exact HO_236000.out) hb); have n1_ := am' (blk_below (g := gb234) (o := .cells #[.slice A0_0 l0_0.length c0_0, .int .i64 a0_1] 69 (0, 0)) (by (with_reducible repeat (first | refine kn' ?_ _ | refine kd' ?_ | refine ka' ?_ _)); exact BK234.out) hb); have n2_ := am' (blk_below (g := gb235) (o := .cells #[.slice Ao29 x236000_1.length co29, .bool x236001_1] 71 (0, 0)) (by (with_reducible repeat (first | refine kn' ?_ _ | refine kd' ?_ | refine ka' ?_ _)); exact BK235.out) hb); have n3_ := am' (blk_below (g := gb236) (o := .cells #[.slice none 0 0, .bool x237001_1] 71 (0, 0)) (by (with_reducible repeat (first | refine kn' ?_ _ | refine kd' ?_ | refine ka' ?_ _)); exact BK236.out) hb); have n4_ := am' (below_step (by repeat (first | (with_reducible first | exact HB.out | apply ba' | apply bd' | apply be' | refine bs' ?_ GE234.out | refine bs' ?_ GE235.out | refine bs' ?_ GE236.out) | exact HB.out)) hb); clear HO_236000; clear BK234; clear BK235; clear BK236; clear HB; have HO_236000 := n0_; have BK234 := n1_; have BK235 := n2_; have BK236 := n3_; have HB := n4_; clear n0_ n1_ n2_ n3_ n4_; (try clear hb); (try clear hb2); (try clear hk); (try clear hi); have hcz31_0 : w30.cell? ⟨gb235, 0, none⟩ = some (.slice Ao29 x236000_1.length co29) := (blk_cell BK235.out 0).trans rfl; have hcz31_1 : w30.cell? ⟨gb235, 1, none⟩ = some (.bool x236001_1) := (blk_cell BK235.out 1).trans rfl; have hfz31_0 := blk_frozen BK235.out 0; have hfz31_1 := blk_frozen BK235.out 1; have hcz32_0 : w30.cell? ⟨gb236, 0, none⟩ = some (.slice none 0 0) := (blk_cell BK236.out 0).trans rfl; have hcz32_1 : w30.cell? ⟨gb236, 1, none⟩ = some (.bool x237001_1) := (blk_cell BK236.out 1).trans rfl; have hfz32_0 := blk_frozen BK236.out 0; have hfz32_1 := blk_frozen BK236.out 1))
       refine bodyPost_ret (results_ct rfl _ _ gb236 71 #[.slice Ao29 x236000_1.length co29, .bool x236001_1] (0, 0) _ rfl (by (with_reducible repeat (first | refine kn' ?_ _ | refine kd' ?_ | refine ka' ?_ _)); refine blk_put (cs := #[.slice Ao29 x236000_1.length co29, .bool x237001_1]) ?_ 1 _ rfl; (with_reducible repeat (first | refine kn' ?_ _ | refine kd' ?_ | refine ka' ?_ _)); refine blk_put (cs := #[.slice none 0 0, .bool x237001_1]) ?_ 0 _ rfl; (with_reducible repeat (first | refine kn' ?_ _ | refine kd' ?_ | refine ka' ?_ _)); exact BK236.out) Try.underlying71 rfl (by kernel_rfl)) rfl ?_
       exact ⟨_, by first | rfl | (simp [errW_none, errW_some] <;> rfl) | (simp [*, errW_none, errW_some] <;> rfl), by (with_reducible repeat (first | apply Kd.V_alloc | apply Kd.V_drewN | apply Kd.V_drew)); exact Kd.V_mono (Kd.V_far (p := ⟨gb236, 1, none⟩) (Kd.V_far (p := ⟨gb236, 0, none⟩) (Kd.V_mono HO_236000.out (fun k_ hk => (⟨hk, hk.2.2.2⟩ : _ ∧ k_ ≠ gb236))) (fun _ hk => hk.2) (.slice Ao29 x236000_1.length co29)) (fun _ hk => hk.2) (.bool x236001_1)) (fun _ hk => hk.1.1), by repeat (first | (with_reducible first | exact HB.out | apply ba' | apply bd' | apply be' | refine bs' ?_ GE234.out | refine bs' ?_ GE235.out | refine bs' ?_ GE236.out) | exact HB.out)⟩
     ·
      rw [if_neg c9] at H; exact absurd H (by simp)
    ·
     rw [if_neg c8] at H; exact absurd H (by simp)
   ·
    rw [if_neg c7] at H; have c7b0 : decide (x12_1 < (l2.length : Int)) = false := decide_eq_false c7
    clear c7; replace H := Option.bind_eq_some_iff.mp H
    obtain ⟨⟨t237, t240⟩, A330, H⟩ := H
    replace H : ((impl_State_moved.f k1 t237 t240 ([] : List Int)).bind fun bt241 => (some (bt241.1, bt241.2, (-1)))) = some (r1, r2, r3) := H
    have A33 := am' A330
    clear A330; replace H := Option.bind_eq_some_iff.mp H
    obtain ⟨⟨t241, t244⟩, A340, H⟩ := H
    replace H : (some (t241, t244, (-1))) = some (r1, r2, r3) := H
    have A34 := am' A340
    clear A340; simp only [Option.some.injEq, Prod.mk.injEq] at H
    obtain ⟨rfl, rfl, rfl⟩ := H
    have hnb35 := NB235_234.out
    have hnc35 := NB234_235.out
    have hnb36 := NB235_236.out
    have hnc36 := NB236_235.out
    have hcz37_0 : wr.cell? ⟨gb235, 0, none⟩ = some (u236000) := (blk_cell BK235.out 0).trans rfl
    have hcz37_1 : wr.cell? ⟨gb235, 1, none⟩ = some (.bool x236001_1) := (blk_cell BK235.out 1).trans rfl
    have hfz37_0 := blk_frozen BK235.out 0
    have hfz37_1 := blk_frozen BK235.out 1
    obtain ⟨Ao38, co38, eo38⟩ := Kd.V_slice HO_236000.out
    subst eo38; go_wp2_with (first | ((with_reducible refine gate_callee (f := 150) rfl ?_); refine goesL_ (some 29) rfl rfl Try.func150 (by kernel_rfl) rfl #[.agg #[.slice Ao38 x236000_1.length co38, .bool x236001_1], .slice none 0 0] rfl (by (try simp only [List.map_toArray, List.map_cons, List.map_nil]); first | done | rfl | (simp only [List.length_drop, List.length_take]; rfl)) ?_; (refine (impl_State_moved.calls k1 _ _ x236000_1 x236001_1 _ _ ([] : List Int) t237 t240 _ ?side1 ?side2 ?side3 ?side4 A33.out).mono ?_); (case side1 => repeat (first | exact (Kd.V_reads' HO_236000.out).2.2 | (with_reducible refine ca' ?_ _) | (with_reducible refine cn' ?_ _) | (with_reducible refine cd' ?_))); (case side2 => exact (Kd.V_reads' HO_236000.out).2.1); (case side3 => exact Kd.C_nil _ _); (case side4 => exact Nat.le_refl _); rintro e w39 ⟨v238, rfl, ho0, hb⟩; refine ⟨_, rfl, ?_⟩; have n0_ := am' (Kd.V_elder' (by (with_reducible repeat (first | apply Kd.V_alloc | apply Kd.V_drewN | apply Kd.V_drew)); exact HO_236000.out) (Kd.R_base ho0) hb); have n1_ := am' (Kd.R_lower (Kd.R_newM (M := fun k_ => (w.heap.size ≤ k_)) ho0 (below_size (by repeat (first | (with_reducible first | exact HB.out | apply ba' | apply bd' | apply be' | refine bs' ?_ GE234.out | refine bs' ?_ GE235.out | refine bs' ?_ GE236.out) | exact HB.out))) (fun k_ h_ => h_)) (below_size (by repeat (first | (with_reducible first | exact HB.out | apply ba' | apply bd' | apply be' | refine bs' ?_ GE234.out | refine bs' ?_ GE235.out | refine bs' ?_ GE236.out) | exact HB.out)))); have n2_ := am' (blk_below (g := gb234) (o := .cells #[.slice A0_0 l0_0.length c0_0, .int .i64 a0_1] 69 (0, 0)) (by (with_reducible repeat (first | refine kn' ?_ _ | refine kd' ?_ | refine ka' ?_ _)); exact BK234.out) hb); have n3_ := am' (blk_below (g := gb235) (o := .cells #[.slice Ao38 x236000_1.length co38, .bool x236001_1] 71 (0, 0)) (by (with_reducible repeat (first | refine kn' ?_ _ | refine kd' ?_ | refine ka' ?_ _)); exact BK235.out) hb); have n4_ := am' (blk_below (g := gb236) (o := .cells #[.slice none 0 0, .bool x237001_1] 71 (0, 0)) (by (with_reducible repeat (first | refine kn' ?_ _ | refine kd' ?_ | refine ka' ?_ _)); exact BK236.out) hb); have n5_ := am' (below_step (by repeat (first | (with_reducible first | exact HB.out | apply ba' | apply bd' | apply be' | refine bs' ?_ GE234.out | refine bs' ?_ GE235.out | refine bs' ?_ GE236.out) | exact HB.out)) hb); clear HO_236000; clear BK234; clear BK235; clear BK236; clear HB; have HO_236000 := n0_; have HO239 := n1_; have BK234 := n2_; have BK235 := n3_; have BK236 := n4_; have HB := n5_; clear n0_ n1_ n2_ n3_ n4_ n5_; (try clear hb); (try clear hb2); (try clear hk); (try clear hi); (try clear ho0); obtain ⟨Ao40, co40, eo40⟩ := Kd.R_slice HO239.out; subst eo40) | ((with_reducible refine gate_callee (f := 150) rfl ?_); refine goesL_ (some 30) rfl rfl Try.func150 (by kernel_rfl) rfl #[.agg #[.slice Ao40 t237.length co40, .bool t240], .slice none 0 0] rfl (by (try simp only [List.map_toArray, List.map_cons, List.map_nil]); first | done | rfl | (simp only [List.length_drop, List.length_take]; rfl)) ?_; (refine (impl_State_moved.calls k1 _ _ t237 t240 _ _ ([] : List Int) t241 t244 _ ?side1 ?side2 ?side3 ?side4 A34.out).mono ?_); (case side1 => repeat (first | exact (Kd.R_reads' HO239.out).2.2 | (with_reducible refine ca' ?_ _) | (with_reducible refine cn' ?_ _) | (with_reducible refine cd' ?_))); (case side2 => exact (Kd.R_reads' HO239.out).2.1); (case side3 => exact Kd.C_nil _ _); (case side4 => exact Nat.le_refl _); rintro e w41 ⟨v242, rfl, ho0, hb⟩; refine ⟨_, rfl, ?_⟩; have n0_ := am' (Kd.V_elder' (by (with_reducible repeat (first | apply Kd.V_alloc | apply Kd.V_drewN | apply Kd.V_drew)); exact HO_236000.out) (Kd.R_base ho0) hb); have n1_ := am' (Kd.R_elder' (by (with_reducible repeat (first | apply ra' | apply rn' | apply rw')); exact HO239.out) (Kd.R_base ho0) hb); have n2_ := am' (Kd.R_lower (Kd.R_new' (Kd.R_newM (M := fun k_ => (w.heap.size ≤ k_)) ho0 (below_size (by repeat (first | (with_reducible first | exact HB.out | apply ba' | apply bd' | apply be' | refine bs' ?_ GE234.out | refine bs' ?_ GE235.out | refine bs' ?_ GE236.out) | exact HB.out))) (fun k_ h_ => h_)) (Kd.R_lt (by (with_reducible repeat (first | apply ra' | apply rn' | apply rw')); exact HO239.out))) (below_size (by repeat (first | (with_reducible first | exact HB.out | apply ba' | apply bd' | apply be' | refine bs' ?_ GE234.out | refine bs' ?_ GE235.out | refine bs' ?_ GE236.out) | exact HB.out)))); have n3_ := am' (blk_below (g := gb234) (o := .cells #[.slice A0_0 l0_0.length c0_0, .int .i64 a0_1] 69 (0, 0)) (by (with_reducible repeat (first | refine kn' ?_ _ | refine kd' ?_ | refine ka' ?_ _)); exact BK234.out) hb); have n4_ := am' (blk_below (g := gb235) (o := .cells #[.slice Ao38 x236000_1.length co38, .bool x236001_1] 71 (0, 0)) (by (with_reducible repeat (first | refine kn' ?_ _ | refine kd' ?_ | refine ka' ?_ _)); exact BK235.out) hb); have n5_ := am' (blk_below (g := gb236) (o := .cells #[.slice none 0 0, .bool x237001_1] 71 (0, 0)) (by (with_reducible repeat (first | refine kn' ?_ _ | refine kd' ?_ | refine ka' ?_ _)); exact BK236.out) hb); have n6_ := am' (below_step (by repeat (first | (with_reducible first | exact HB.out | apply ba' | apply bd' | apply be' | refine bs' ?_ GE234.out | refine bs' ?_ GE235.out | refine bs' ?_ GE236.out) | exact HB.out)) hb); clear HO_236000; clear HO239; clear BK234; clear BK235; clear BK236; clear HB; have HO_236000 := n0_; have HO239 := n1_; have HO243 := n2_; have BK234 := n3_; have BK235 := n4_; have BK236 := n5_; have HB := n6_; clear n0_ n1_ n2_ n3_ n4_ n5_ n6_; (try clear hb); (try clear hb2); (try clear hk); (try clear hi); (try clear ho0); obtain ⟨Ao42, co42, eo42⟩ := Kd.R_slice HO243.out; subst eo42; have hnb43 := NB236_234.out; have hnc43 := NB234_236.out; have hcz44_0 : w41.cell? ⟨gb236, 0, none⟩ = some (.slice none 0 0) := (blk_cell BK236.out 0).trans rfl; have hcz44_1 : w41.cell? ⟨gb236, 1, none⟩ = some (.bool x237001_1) := (blk_cell BK236.out 1).trans rfl; have hfz44_0 := blk_frozen BK236.out 0; have hfz44_1 := blk_frozen BK236.out 1))
    refine bodyPost_ret (results_ct rfl _ _ gb236 71 #[.slice Ao42 t241.length co42, .bool t244] (0, 0) _ rfl (by (with_reducible repeat (first | refine kn' ?_ _ | refine kd' ?_ | refine ka' ?_ _)); refine blk_put (cs := #[.slice Ao42 t241.length co42, .bool x237001_1]) ?_ 1 _ rfl; (with_reducible repeat (first | refine kn' ?_ _ | refine kd' ?_ | refine ka' ?_ _)); refine blk_put (cs := #[.slice none 0 0, .bool x237001_1]) ?_ 0 _ rfl; (with_reducible repeat (first | refine kn' ?_ _ | refine kd' ?_ | refine ka' ?_ _)); exact BK236.out) Try.underlying71 rfl (by kernel_rfl)) rfl ?_
    exact ⟨_, by first | rfl | (simp [errW_none, errW_some] <;> rfl) | (simp [*, errW_none, errW_some] <;> rfl), Kd.V_mono (Kd.R_V (by (with_reducible repeat (first | apply ra' | apply rn' | apply rw')); exact Kd.R_mono (Kd.R_far (p := ⟨gb236, 1, none⟩) (Kd.R_far (p := ⟨gb236, 0, none⟩) (Kd.R_types HO243.out BK236.out (by decide)) (fun _ hk => hk.2) (.slice Ao42 t241.length co42)) (fun _ hk => hk.2) (.bool t244)) (fun _ hk => hk.1.1.1))) (fun k_ hk => by first | exact ⟨(.inr (hk.1)), hk.2⟩ | exact (.inr (hk))), by repeat (first | (with_reducible first | exact HB.out | apply ba' | apply bd' | apply be' | refine bs' ?_ GE234.out | refine bs' ?_ GE235.out | refine bs' ?_ GE236.out) | exact HB.out)⟩
def bits_Mul64.f (a0 : Int) (a1 : Int) : Option (Int × Int) := some (IntKind.u64.wrap ((IntKind.u64.wrap ((IntKind.u64.wrap ((a0 / 4294967296) * (a1 / 4294967296))) + ((IntKind.u64.wrap ((IntKind.u64.wrap ((a0 / 4294967296) * (Go.bits .and .u64 a1 4294967295))) + ((IntKind.u64.wrap ((Go.bits .and .u64 a0 4294967295) * (Go.bits .and .u64 a1 4294967295))) / 4294967296))) / 4294967296))) + ((IntKind.u64.wrap ((Go.bits .and .u64 (IntKind.u64.wrap ((IntKind.u64.wrap ((a0 / 4294967296) * (Go.bits .and .u64 a1 4294967295))) + ((IntKind.u64.wrap ((Go.bits .and .u64 a0 4294967295) * (Go.bits .and .u64 a1 4294967295))) / 4294967296))) 4294967295) + (IntKind.u64.wrap ((Go.bits .and .u64 a0 4294967295) * (a1 / 4294967296))))) / 4294967296)), IntKind.u64.wrap (a0 * a1))
set_option maxHeartbeats 8000000 in
set_option maxRecDepth 100000 in
theorem bits_Mul64.calls (a0 : Int) (a1 : Int) (r1 : Int) (r2 : Int) (w : World) (h : bits_Mul64.f a0 a1 = some (r1, r2)) :
  Calls Try.prog 157 #[.int .u64 a0, .int .u64 a1] w fun e w' => e = .returned (.tuple #[.int .u64 r1, .int .u64 r2]) ∧ Drawn0 w w' := by
 have H : (some (IntKind.u64.wrap ((IntKind.u64.wrap ((IntKind.u64.wrap ((a0 / 4294967296) * (a1 / 4294967296))) + ((IntKind.u64.wrap ((IntKind.u64.wrap ((a0 / 4294967296) * (Go.bits .and .u64 a1 4294967295))) + ((IntKind.u64.wrap ((Go.bits .and .u64 a0 4294967295) * (Go.bits .and .u64 a1 4294967295))) / 4294967296))) / 4294967296))) + ((IntKind.u64.wrap ((Go.bits .and .u64 (IntKind.u64.wrap ((IntKind.u64.wrap ((a0 / 4294967296) * (Go.bits .and .u64 a1 4294967295))) + ((IntKind.u64.wrap ((Go.bits .and .u64 a0 4294967295) * (Go.bits .and .u64 a1 4294967295))) / 4294967296))) 4294967295) + (IntKind.u64.wrap ((Go.bits .and .u64 a0 4294967295) * (a1 / 4294967296))))) / 4294967296)), IntKind.u64.wrap (a0 * a1))) = some (r1, r2) := h
 clear h; simp only [Option.some.injEq, Prod.mk.injEq] at H
 obtain ⟨rfl, rfl⟩ := H
 go_enter Try.func157, Try.ntmps157
 go_wp2
 go_ret2
 exact ⟨by first | rfl | (simp; done) | (simp [*]; done), by repeat (first | exact Drawn0.refl _ | apply Drawn0.step)⟩
def bits_Mul.f (a0 : Int) (a1 : Int) : Option (Int × Int) := (bits_Mul64.f a0 a1).bind fun bt251 => (some (bt251.1, bt251.2))
set_option maxHeartbeats 8000000 in
set_option maxRecDepth 100000 in
theorem bits_Mul.calls (a0 : Int) (a1 : Int) (r1 : Int) (r2 : Int) (w : World) (h : bits_Mul.f a0 a1 = some (r1, r2)) :
  Calls Try.prog 155 #[.int .u64 a0, .int .u64 a1] w fun e w' => e = .returned (.tuple #[.int .u64 r1, .int .u64 r2]) ∧ Drawn0 w w' := by
 have H : ((bits_Mul64.f a0 a1).bind fun bt251 => (some (bt251.1, bt251.2))) = some (r1, r2) := h
 clear h; replace H := Option.bind_eq_some_iff.mp H
 obtain ⟨⟨t251, t252⟩, A30, H⟩ := H
 replace H : (some (t251, t252)) = some (r1, r2) := H
 have A3 := am' A30
 clear A30; simp only [Option.some.injEq, Prod.mk.injEq] at H
 obtain ⟨rfl, rfl⟩ := H
 go_enter Try.func155, Try.ntmps155
 go_wp2_with (first | ((with_reducible refine gate_callee (f := 157) rfl ?_); refine goesL_ (some 25) rfl rfl Try.func157 (by kernel_rfl) rfl #[.int .u64 a0, .int .u64 a1] rfl (by (try simp only [List.map_toArray, List.map_cons, List.map_nil]); first | done | rfl | (simp only [List.length_drop, List.length_take]; rfl)) ?_; (with_reducible refine (bits_Mul64.calls a0 a1 t251 t252 _ A3.out).mono ?_); rintro e w' ⟨rfl, ⟨nd, rfl⟩⟩; refine ⟨_, rfl, ?_⟩))
 go_ret2
 exact ⟨by first | rfl | (simp; done) | (simp [*]; done), by repeat (first | exact Drawn0.refl _ | apply Drawn0.step)⟩
theorem mulOne : ∀ m : Nat, m ≤ 8 → bits_Mul.f 1 (m : Int) = some (0, (m : Int))
 | 0, _ => by kernel_rfl
 | 1, _ => by kernel_rfl
 | 2, _ => by kernel_rfl
 | 3, _ => by kernel_rfl
 | 4, _ => by kernel_rfl
 | 5, _ => by kernel_rfl
 | 6, _ => by kernel_rfl
 | 7, _ => by kernel_rfl
 | 8, _ => by kernel_rfl
theorem splice_rep (n m : Nat) (v z : Value) (q : Nat) (hq : n + q ≤ m) : splice (List.replicate n v ++ List.replicate (m - n) z) n (List.replicate q v) = List.replicate (n + q) v ++ List.replicate (m - (n + q)) z := by
 unfold splice
 have e1 : (List.replicate n v ++ List.replicate (m - n) z).take n = List.replicate n v := by simp
 have e2 : (List.replicate n v ++ List.replicate (m - n) z).drop (n + (List.replicate q v).length) = List.replicate (m - (n + q)) z := by
  rw [List.length_replicate, List.drop_append, List.length_replicate, List.drop_replicate, List.drop_replicate]
  have a1 : n - (n + q) = 0 := by omega
  have a2 : m - n - (n + q - n) = m - (n + q) := by omega
  rw [a1, a2]
  rfl
 rw [e1, e2, ← List.append_assoc, List.replicate_append_replicate]
theorem made_rep (z : Value) (m : Nat) : madeCells #[z] m = (List.replicate m z).toArray := by
 apply Array.ext
 ·
  simp [madeCells]
 ·
  intro i h1 h2; simp [madeCells, Nat.mod_one]
theorem rep_one (n : Nat) (b : Bool) : ∀ u ∈ List.replicate n (Value.bool b), u.oneCell' = true := fun u hu => by rw [List.eq_of_mem_replicate hu]; rfl
theorem rep_cells {w w1 : World} {ad : Addr} {v : Value} (hx : w.cell? (ad.add 0) = some v) (m : Nat) (hb : Below w.heap.size w w1) (o : Obj) : ∀ j u, (List.replicate (min 1 m) v)[j]? = some u → (w1.alloc o).cell? (ad.add j) = some u := by
 intro j u hu; have hb2 : Below w.heap.size w (w1.alloc o) := ba' hb o
 have hj : j < min 1 m := by have := (List.getElem?_eq_some_iff.1 hu).1; simpa using this
 obtain rfl : j = 0 := by omega
 rw [List.getElem?_replicate, if_pos hj] at hu
 cases hu
 exact (hb2.cell (bl' w _ hx)).trans hx
theorem rep_first {w : World} {g m t : Nat} {v z : Value} (h : w.heap[g]? = some (.cells (splice (List.replicate m z) 0 (List.replicate (min 1 m) v)).toArray t (0, 0))) : w.heap[g]? = some (.cells (List.replicate (min 1 m) v ++ List.replicate (m - min 1 m) z).toArray t (0, 0)) := by
 have := splice_rep 0 m v z (min 1 m) (by omega)
 simp only [List.replicate_zero, List.nil_append, Nat.sub_zero, Nat.zero_add] at this
 rwa [this] at h
theorem rep_next {w : World} {g m n t : Nat} {v z : Value} (h : w.heap[g]? = some (.cells (splice (List.replicate n v ++ List.replicate (m - n) z) n (List.replicate (min n (m - n)) v)).toArray t (0, 0))) (hn : n ≤ m := by omega) : w.heap[g]? = some (.cells (List.replicate (n + min n (m - n)) v ++ List.replicate (m - (n + min n (m - n))) z).toArray t (0, 0)) := by
 rwa [splice_rep n m v z _ (by omega)] at h
theorem rep_self {w : World} {g m n t : Nat} {v z : Value} (h : w.heap[g]? = some (.cells (List.replicate n v ++ List.replicate (m - n) z).toArray t (0, 0))) (hn : n ≤ m) : ∀ j u, (List.replicate (min n (m - n)) v)[j]? = some u → w.cell? ((⟨g, 0, none⟩ : Addr).add j) = some u := by
 intro j u hu; have hj : j < min n (m - n) := by have := (List.getElem?_eq_some_iff.1 hu).1; simpa using this
 rw [List.getElem?_replicate, if_pos hj] at hu
 cases hu
 have ha : (⟨g, 0, none⟩ : Addr).add j = ⟨g, j, none⟩ := by unfold Addr.add; split <;> simp_all
 rw [ha, blk_cell h j, List.getElem?_toArray, List.getElem?_append_left (by simp; omega), List.getElem?_replicate, if_pos (by omega)]
theorem rep_row {w : World} {base m : Nat} {v : Bool} (hm : m ≤ 8) (h : w.heap[base]? = some (.cells (List.replicate m (Value.bool v) ++ List.replicate (m - m) (Value.bool false)).toArray 4 (0, 0))) : Kd.R Kd.bool 4 w base (fun _ => True) (.slice (some ⟨base, 0, none⟩) m m) (List.replicate m v) := by
 refine Kd.R_of_own ?_ (fun _ _ => trivial)
 refine ⟨by simp [encs], .inr ⟨base, m, _, by simp, Nat.le_refl _, h, by simp, by unfold maxLen; omega, by simp, ?_⟩⟩
 simp [encs]
def slices_Repeat_bool_bool.f (l0 : List Bool) (a1 : Int) : Option (List Bool) := if 0 ≤ a1 ∧ a1 ≤ 8 ∧ l0.length = 1 then some (List.replicate a1.toNat (rdOf false l0 0)) else none
set_option maxHeartbeats 4000000 in
set_option maxRecDepth 100000 in
theorem repeat_calls (A0 : Option Addr) (c0 : Nat) (v : Bool) (m : Nat) (hm : m ≤ 8) (w : World) (hr0 : Kd.C Kd.bool w A0 1 [v]) :
  Calls Try.prog 151 #[.slice A0 1 c0, .int .i64 (m : Int)] w fun e w' => ∃ v0_ : Value, e = .returned (v0_) ∧ Kd.R Kd.bool 4 w' w.heap.size (fun _ => True) v0_ (List.replicate m v) ∧ Below w.heap.size w w' := by
 obtain ⟨ad, rfl, hx0⟩ := Kd.at_bool hr0 0 (by omega) (by omega)
 have hx : w.cell? (ad.add 0) = some (.bool v) := by simpa [rdOf] using hx0
 have hinfo : (Try.prog.info? 4).map (fun i => (i.zero, i.size, i.bytes)) = some (some (.bool false), 1, 1) := by kernel_rfl
 have hsz1 : (Try.prog.info? 4).map (·.size) = some 1 := by kernel_rfl
 have hmul := mulOne m hm
 have hmk := fun W : World => run_make_row' (P := Try.prog) 26 4 (.bool false) 1 Try.underlying26 hinfo rfl .i64 .i64 m (by omega) (by omega) W
 rw [made_rep (.bool false) m] at hmk
 have HX := am' hx
 have HI := am' hsz1
 have HM := am' hmul
 clear hr0 hx0 hx hinfo hsz1 hmul; have hm0 : (0 : Int) ≤ (m : Int) := by omega
 have hm8 : (m : Int) ≤ 8 := by omega
 go_enter Try.func151, Try.ntmps151
 go_wp2_with (first | (go_at_call 155; refine (bits_Mul.calls 1 m 0 m _ HM.out).mono ?_; rintro e w' ⟨rfl, ⟨nd, rfl⟩⟩) | ((with_reducible refine gate_builtin (b := .copy) (xs := #[.tmp 31, .tmp 32]) rfl ?_); refine wpList_copy_splice rfl (.tmp 31) (.tmp 32) 26 26 rfl 4 Try.underlying26 HI.out (some ⟨w.heap.size, 0, none⟩) (some ad) m m 1 c0 rfl rfl w.heap.size 0 (List.replicate m (.bool false)) 4 ?hg1 (List.replicate (min 1 m) (.bool v)) ?hn1 ?hp1 ?hf1 ?ho1 w.heap.size w ?hb1 (Nat.le_refl _) ?_; (case hg1 => exact heap_alloc_new (w.drewN nd) _); (case hn1 => simp [Nat.min_def]); (case hp1 => exact fun hp => ⟨rfl, ad, rfl, rep_cells HX.out m (bd' (Below.refl _ _) nd) _⟩); (case hf1 => simp; omega); (case ho1 => exact rep_one _ _); (case hb1 => exact ba' (bd' (Below.refl _ _) nd) _); intro w1 hc1 hb1; have HC1 := am' (rep_first hc1.out); have HB1 := am' hb1; clear hc1 hb1))
 go_loopg [8] m (fun gg s8 wr => ∃ n : Nat, s8 = .int .i64 (n : Int) ∧ min 1 m ≤ n ∧ n ≤ m ∧ m - n ≤ gg ∧ Aside0 (wr.heap[w.heap.size]? = some (.cells (List.replicate n (Value.bool v) ++ List.replicate (m - n) (Value.bool false)).toArray 4 (0, 0))) ∧ Aside0 (Below w.heap.size w wr))
 case atStart => exact ⟨min 1 m, by simp, Nat.le_refl _, Nat.min_le_right _ _, by omega, HC1, HB1⟩
 case round =>
  obtain ⟨n, rfl, h1n, hnm, hng, HC, HB⟩ := hrel
  clear HC1 HB1; by_cases hlt : n < m
  ·
   have d0 : decide ((n : Int) < (m : Int)) = true := by simp; omega
   have q0 : (0 ≤ (n : Int)) = True := by simp
   have q1 : ((n : Int) ≤ (m : Int)) = True := by simp; omega
   go_wp2
   go_region_law (refine step_copy_splice rfl (.tmp 41) (.tmp 44) 26 26 rfl 4 Try.underlying26 HI.out (some ⟨w.heap.size, n, none⟩) (some ⟨w.heap.size, 0, none⟩) (m - n) (m - n) n m ?hd ?hs w.heap.size n (List.replicate n (Value.bool v) ++ List.replicate (m - n) (Value.bool false)) 4 ?hg1 (List.replicate (min n (m - n)) (Value.bool v)) ?hn1 ?hp1 ?hf1 (rep_one _ _) w.heap.size w ?hb1 (Nat.le_refl _) ?_; (case hd => go_simp; omega); (case hs => go_simp); (case hg1 => exact HC.out); (case hn1 => simp [Nat.min_def]); (case hp1 => exact fun hp => ⟨rfl, _, rfl, rep_self HC.out hnm⟩); (case hf1 => simp; omega); (case hb1 => exact bd' HB.out 1); intro w1 hc1 hb1; have HC1 := am' (rep_next hc1.out); have HB1 := am' hb1; clear hc1 hb1)
   go_wp2
   go_roundg (m - (n + min n (m - n)))
   case measure => omega
   case rel => exact ⟨n + min n (m - n), by (show Value.int _ _ = Value.int _ _); congr 1; exact (i64_w _).trans ((wr_id (a := (n : Int) + (min n (m - n) : Nat)) (by omega) (by omega)).trans (Int.natCast_add _ _).symm), by omega, by omega, by omega, HC1, HB1⟩
  ·
   have d0 : decide ((n : Int) < (m : Int)) = false := by simp; omega
   go_wp2
   go_ret
   obtain rfl : n = m := by omega
   refine ⟨_, rfl, ?_, HB.out⟩
   exact rep_row hm HC.out
theorem slices_Repeat_bool_bool.calls (A0 : Option Addr) (c0 : Nat) (l0 : List Bool) (a1 : Int) (r : List Bool) (w : World) (hr0 : Kd.C Kd.bool w A0 l0.length l0) (hc0 : l0.length ≤ c0) (h : slices_Repeat_bool_bool.f l0 a1 = some r) :
  Calls Try.prog 151 #[.slice A0 l0.length c0, .int .i64 a1] w fun e w' => ∃ v0_ : Value, e = .returned (v0_) ∧ Kd.R Kd.bool 4 w' w.heap.size (fun _ => True) v0_ r ∧ Below w.heap.size w w' := by
 unfold slices_Repeat_bool_bool.f at h
 by_cases hc : 0 ≤ a1 ∧ a1 ≤ 8 ∧ l0.length = 1
 ·
  rw [if_pos hc] at h; obtain ⟨h0, h8, h1⟩ := hc
  obtain rfl := Option.some.inj h
  obtain ⟨m, rfl⟩ := Int.eq_ofNat_of_zero_le h0
  match l0, h1 with
  | [v], _ => exact repeat_calls A0 c0 v m (by omega) w hr0
 ·
  rw [if_neg hc] at h; cases h
def impl_allAt.f (a0 : Int) (a1 : Bool) : Option (List Bool × Bool) := (slices_Repeat_bool_bool.f (([a1] : List Bool)) a0).bind fun t257 => (some (t257, a1))
set_option maxHeartbeats 8000000 in
set_option maxRecDepth 100000 in
theorem impl_allAt.calls (a0 : Int) (a1 : Bool) (r1 : List Bool) (r2 : Bool) (w : World) (h : impl_allAt.f a0 a1 = some (r1, r2)) :
  Calls Try.prog 139 #[.int .i64 a0, .bool a1] w fun e w' => ∃ v0_ : Value, e = .returned (.agg #[v0_, .bool r2]) ∧ Kd.R Kd.bool 4 w' w.heap.size (fun _ => True) v0_ r1 ∧ Below w.heap.size w w' := by
 have hu71 := Try.underlying71
 have HB := am' (Below.refl w.heap.size w)
 have H : ((slices_Repeat_bool_bool.f (([a1] : List Bool)) a0).bind fun t257 => (some (t257, a1))) = some (r1, r2) := h
 clear h; obtain ⟨y254, hy254⟩ : ∃ y_ : List Bool, y_ = (([a1] : List Bool)) := ⟨_, rfl⟩
 replace H : ((slices_Repeat_bool_bool.f y254 a0).bind fun t257 => (some (t257, a1))) = some (r1, r2) := by first | (rw [hy254]; with_reducible exact H) | (have H2_ := (Option.bind_some _ _).symm.trans H; rw [hy254]; with_reducible exact H2_) | (have H2_ := (Option.bind_some _ _).symm.trans H; with_reducible exact H2_) | with_reducible exact H | (rw [hy254]; exact H) | exact H
 have Ny254 := am' hy254
 clear hy254; replace H := Option.bind_eq_some_iff.mp H
 obtain ⟨t257, A30, H⟩ := H
 replace H : (some (t257, a1)) = some (r1, r2) := H
 have A3 := am' A30
 clear A30; simp only [Option.some.injEq, Prod.mk.injEq] at H
 obtain ⟨rfl, rfl⟩ := H
 go_enter Try.func139, Try.ntmps139
 go_wp2_with (first | ((with_reducible refine gate_dst (N := 4) rfl ?_); refine box_event ?hg (N := 4) ?hd (cs := #[.slice none 0 0, .bool false]) (t := 71) ?hr ?_; (case hd => rfl); (case hg => rfl); (case hr => first | (go_simp; done) | (go_simp; rfl)); intro gb253 hg w4 hbox hb; have n0_ := am' (below_step (by repeat (first | (with_reducible first | exact HB.out | apply ba' | apply bd' | apply be') | exact HB.out)) hb); have n1_ := am' (hbox); have n2_ := am' ((by rw [hg]; exact (below_size (by repeat (first | (with_reducible first | exact HB.out | apply ba' | apply bd' | apply be') | exact HB.out))) : w.heap.size ≤ gb253)); have n3_ := am' ((by rw [hg]; exact (below_size (by repeat (first | (with_reducible first | exact HB.out | apply ba' | apply bd' | apply be') | exact HB.out))) : w.heap.size ≤ gb253)); clear HB; have HB := n0_; have BK253 := n1_; have GW253 := n2_; have GE253 := n3_; clear n0_ n1_ n2_ n3_; clear hb hbox hg) | ((with_reducible refine gate_dst (N := 6) rfl ?_); refine Kd.R_lit Kd.bool _ 4 ?hg (N := 6) ?hd (xs := ([a1] : List Bool)) (inner := [.bool a1]) (ok := fun _ => True) (okp := fun _ => True) ?hr ?hp (fun _ hk => hk) trivial (Below.refl _ _) (Nat.le_refl _) (by simp) ?_; (case hd => rfl); (case hg => rfl); (case hr => first | (go_simp; done) | (go_simp; rfl)); (case hp => exact (Reps.one (show Kd.M Kd.bool _ _ _ a1 [.bool a1] from rfl) (Reps.none _ _))); intro v255 w5 ho6 hb hg_ hnew_; clear hg_ hnew_; (first | rw [← Ny254.out] at ho6 | (simp only [Int.reduceToNat] at ho6; rw [← Ny254.out] at ho6)); have n0_ := am' (Kd.R_lower ho6 (below_size (by repeat (first | (with_reducible first | exact HB.out | apply ba' | apply bd' | apply be' | refine bs' ?_ GE253.out) | exact HB.out)))); have n1_ := am' (blk_below (g := gb253) (o := .cells #[.slice none 0 0, .bool false] 71 (0, 0)) (by (with_reducible repeat (first | refine kn' ?_ _ | refine kd' ?_ | refine ka' ?_ _)); exact BK253.out) hb); have n2_ := am' (below_step (by repeat (first | (with_reducible first | exact HB.out | apply ba' | apply bd' | apply be' | refine bs' ?_ GE253.out) | exact HB.out)) hb); clear BK253; clear HB; have HO256 := n0_; have BK253 := n1_; have HB := n2_; clear n0_ n1_ n2_; clear hb ho6; obtain ⟨Ao7, co7, eo7⟩ := Kd.R_slice HO256.out; subst eo7) | ((with_reducible refine gate_callee (f := 151) rfl ?_); refine goesL_ (some 8) rfl rfl Try.func151 (by kernel_rfl) rfl #[.slice Ao7 y254.length co7, .int .i64 a0] rfl (by (try simp only [List.map_toArray, List.map_cons, List.map_nil]); first | done | rfl | (simp only [List.length_drop, List.length_take]; rfl)) ?_; (with_reducible refine (slices_Repeat_bool_bool.calls _ _ y254 a0 t257 _ ?side1 ?side2 A3.out).mono ?_); (case side1 => repeat (first | exact (Kd.R_reads' HO256.out).2.2 | (with_reducible refine ca' ?_ _) | (with_reducible refine cn' ?_ _) | (with_reducible refine cd' ?_))); (case side2 => exact (Kd.R_reads' HO256.out).2.1); rintro e w8 ⟨v258, rfl, ho0, hb⟩; refine ⟨_, rfl, ?_⟩; have n0_ := am' (Kd.R_elder' (by (with_reducible repeat (first | apply ra' | apply rn' | apply rw')); exact HO256.out) (Kd.R_base ho0) hb); have n1_ := am' (Kd.R_lower (Kd.R_new' ho0 (Kd.R_lt (by (with_reducible repeat (first | apply ra' | apply rn' | apply rw')); exact HO256.out))) (below_size (by repeat (first | (with_reducible first | exact HB.out | apply ba' | apply bd' | apply be' | refine bs' ?_ GE253.out) | exact HB.out)))); have n2_ := am' (blk_below (g := gb253) (o := .cells #[.slice none 0 0, .bool false] 71 (0, 0)) (by (with_reducible repeat (first | refine kn' ?_ _ | refine kd' ?_ | refine ka' ?_ _)); exact BK253.out) hb); have n3_ := am' (below_step (by repeat (first | (with_reducible first | exact HB.out | apply ba' | apply bd' | apply be' | refine bs' ?_ GE253.out) | exact HB.out)) hb); clear HO256; clear BK253; clear HB; have HO256 := n0_; have HO259 := n1_; have BK253 := n2_; have HB := n3_; clear n0_ n1_ n2_ n3_; (try clear hb); (try clear hb2); (try clear hk); (try clear hi); (try clear ho0); obtain ⟨Ao9, co9, eo9⟩ := Kd.R_slice HO259.out; subst eo9; have hcz10_0 : w8.cell? ⟨gb253, 0, none⟩ = some (.slice none 0 0) := (blk_cell BK253.out 0).trans rfl; have hcz10_1 : w8.cell? ⟨gb253, 1, none⟩ = some (.bool false) := (blk_cell BK253.out 1).trans rfl; have hfz10_0 := blk_frozen BK253.out 0; have hfz10_1 := blk_frozen BK253.out 1))
 refine bodyPost_ret (results_cell_row rfl _ _ gb253 71 #[.slice Ao9 t257.length co9, .bool a1] (0, 0) _ rfl (by (with_reducible repeat (first | refine kn' ?_ _ | refine kd' ?_ | refine ka' ?_ _)); refine blk_put (cs := #[.slice Ao9 t257.length co9, .bool false]) ?_ 1 _ rfl; (with_reducible repeat (first | refine kn' ?_ _ | refine kd' ?_ | refine ka' ?_ _)); refine blk_put (cs := #[.slice none 0 0, .bool false]) ?_ 0 _ rfl; (with_reducible repeat (first | refine kn' ?_ _ | refine kd' ?_ | refine ka' ?_ _)); exact BK253.out) Try.underlying71 rfl (by kernel_rfl)) rfl ?_
 exact ⟨_, by first | rfl | (simp [errW_none, errW_some] <;> rfl) | (simp [*, errW_none, errW_some] <;> rfl), by (with_reducible repeat (first | apply ra' | apply rn' | apply rw')); exact Kd.R_mono (Kd.R_far (p := ⟨gb253, 1, none⟩) (Kd.R_far (p := ⟨gb253, 0, none⟩) (Kd.R_types HO259.out BK253.out (by decide)) (fun _ hk => hk.2) (.slice Ao9 t257.length co9)) (fun _ hk => hk.2) (.bool a1)) (fun _ hk => trivial), by repeat (first | (with_reducible first | exact HB.out | apply ba' | apply bd' | apply be' | refine bs' ?_ GE253.out) | exact HB.out)⟩
end Go.Proofs.Ytpobeakggacdpaa.C4
