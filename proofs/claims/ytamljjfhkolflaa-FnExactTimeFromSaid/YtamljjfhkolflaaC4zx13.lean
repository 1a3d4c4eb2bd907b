import Derived.Test.YtamljjfhkolflaaC4zx0
import Derived.Test.YtamljjfhkolflaaC4zx1
import Derived.Test.YtamljjfhkolflaaC4zx2
import Derived.Test.YtamljjfhkolflaaC4zx6
import Derived.Test.YtamljjfhkolflaaC4zx12
import Derived.Test.YtamljjfhkolflaaC4zAl
namespace Go.Proofs.Ytamljjfhkolflaa.C4
open Go.RowKit Go.Proofs.YtamljjfhkolflaaW.PrintWords Go.Proofs.YtamljjfhkolflaaW.PrintLast Go.Proofs.YtamljjfhkolflaaW.PrintMore Go.Proofs.Ytamljjfhkolflaa.H
attribute [local go_sem] max2_int min2_int max_two min_two max_three min_three max_four min_four
set_option linter.unusedVariables false
set_option linter.unusedSimpArgs false
mutual
def laws_FnExactTimeFrom.j0 : Nat → Int → List Int → Int → List Bool → Bool → Option (Bool)
 | 0, _, _, _, _, _ => none
 | k + 1, x5, x303000, x303001, x304000, x304001 => (laws_szState.f x304000 x304001 x5).bind fun t305 => (if t305 < 0 then (some true) else (laws_FnExactTimeFrom.j1 k x303000 x303001 x304000 x304001))
def laws_FnExactTimeFrom.j1 : Nat → List Int → Int → List Bool → Bool → Option (Bool)
 | 0, _, _, _, _ => none
 | k + 1, x303000, x303001, x304000, x304001 => (laws_toParty.f k x303000 x303001).bind fun bt306 => ((laws_toState.f k x304000 x304001).bind fun bt310 => ((spec_TimeFrom.f k bt306.1 bt306.2 bt310.1 bt310.2).bind fun bt314 => ((laws_toParty.f k x303000 x303001).bind fun bt316 => ((laws_toState.f k x304000 x304001).bind fun bt321 => ((impl_TimeFrom.f k bt316.1 bt316.2 bt321.1 bt321.2).bind fun bt326 => (if bt326.1 = bt314.1 then (laws_FnExactTimeFrom.j2 k (bt326.2 != bt314.2) x303000 x303001 x304000 x304001 bt316.1 bt316.2 bt321.1 bt321.2) else (laws_FnExactTimeFrom.j2 k true x303000 x303001 x304000 x304001 bt316.1 bt316.2 bt321.1 bt321.2)))))))
def laws_FnExactTimeFrom.j2 : Nat → Bool → List Int → Int → List Bool → Bool → List Int → Int → List Bool → Bool → Option (Bool)
 | 0, _, _, _, _, _, _, _, _, _ => none
 | k + 1, x47, x303000, x303001, x304000, x304001, x321000, x321001, x326000, x326001 => if x47 = true then (some false) else (laws_FnExactTimeFrom.j3 k x303000 x303001 x304000 x304001 x321000 x321001 x326000 x326001)
def laws_FnExactTimeFrom.j3 : Nat → List Int → Int → List Bool → Bool → List Int → Int → List Bool → Bool → Option (Bool)
 | 0, _, _, _, _, _, _, _, _ => none
 | k + 1, x303000, x303001, x304000, x304001, x321000, x321001, x326000, x326001 => (laws_toParty.f k x303000 x303001).bind fun bt328 => ((laws_eqParty.f k x321000 x321001 bt328.1 bt328.2).bind fun t332 => (if t332 = true then (laws_FnExactTimeFrom.j4 k x304000 x304001 x326000 x326001) else (some false)))
def laws_FnExactTimeFrom.j4 : Nat → List Bool → Bool → List Bool → Bool → Option (Bool)
 | 0, _, _, _, _ => none
 | k + 1, x304000, x304001, x326000, x326001 => (laws_toState.f k x304000 x304001).bind fun bt333 => ((laws_eqState.f k x326000 x326001 bt333.1 bt333.2).bind fun t337 => (if t337 = true then (some true) else (some false)))
end
def laws_FnExactTimeFrom.f (k : Nat) (l0_0 : List Int) (a0_1 : Int) (l1_0 : List Bool) (a1_1 : Bool) : Option (Bool) := (laws_szParty.f l0_0 a0_1 1048576).bind fun t304 => (if t304 < 0 then (some true) else (laws_FnExactTimeFrom.j0 k t304 l0_0 a0_1 l1_0 a1_1))
def laws_FnExactTimeFrom.T8 : Bool × List (List Nat × List Nat) := (true, [([], []), ([0], [0]), ([], []), ([2, 1], [2]), ([1, 3, 3], [1, 3]), ([4], [4]), ([5], [5]), ([5], [5]), ([6, 4, 0, 1, 2, 3, 4, 5, 6], [6]), ([7, 8, 0, 1, 2, 3, 4, 5, 6, 7, 8], [7])])
def laws_FnExactTimeFrom.B8 : List Nat := [0, 1, 0, 7, 15, 31, 63, 63, 127, 511]
theorem laws_FnExactTimeFrom.tab8 : rtab .any (opsOf Try.f10 8) = laws_FnExactTimeFrom.T8 := by kernel_rfl
theorem laws_FnExactTimeFrom.bits8 : waitsOk laws_FnExactTimeFrom.T8.2 laws_FnExactTimeFrom.B8 = true := by kernel_rfl
set_option maxHeartbeats 8000000 in
set_option maxRecDepth 100000 in
theorem laws_FnExactTimeFrom.calls (k : Nat) (A0_0 : Option Addr) (c0_0 : Nat) (l0_0 : List Int) (a0_1 : Int) (A1_0 : Option Addr) (c1_0 : Nat) (l1_0 : List Bool) (a1_1 : Bool) (r : Bool) (w : World) (hr0_0 : Kd.C (Kd.int .i64) w A0_0 l0_0.length l0_0) (hc0_0 : l0_0.length ≤ c0_0) (hr1_0 : Kd.C Kd.bool w A1_0 l1_0.length l1_0) (hc1_0 : l1_0.length ≤ c1_0) (h : laws_FnExactTimeFrom.f k l0_0 a0_1 l1_0 a1_1 = some r) :
  Calls Try.prog 10 #[.agg #[.slice A0_0 l0_0.length c0_0, .int .i64 a0_1], .agg #[.slice A1_0 l1_0.length c1_0, .bool a1_1]] w fun e w' => e = .returned (.bool r) ∧ Below w.heap.size w w' := by
 have hu24 := Try.underlying24
 have hu41 := Try.underlying41
 have hu28 := Try.underlying28
 have hu44 := Try.underlying44
 have HR0_0 := am' hr0_0
 have HC0_0 := am' hc0_0
 clear hr0_0 hc0_0; have HR1_0 := am' hr1_0
 have HC1_0 := am' hc1_0
 clear hr1_0 hc1_0; have HB := am' (Below.refl w.heap.size w)
 have H : ((laws_szParty.f l0_0 a0_1 1048576).bind fun t304 => (if t304 < 0 then (some true) else (laws_FnExactTimeFrom.j0 k t304 l0_0 a0_1 l1_0 a1_1))) = some r := h
 clear h; replace H := Option.bind_eq_some_iff.mp H
 obtain ⟨t304, A30, H⟩ := H
 replace H : (if t304 < 0 then (some true) else (laws_FnExactTimeFrom.j0 k t304 l0_0 a0_1 l1_0 a1_1)) = some r := H
 have A3 := am' A30
 clear A30; have HC4 := am' H
 clear H; go_enter Try.func10, Try.ntmps10
 go_upto_if 16 with (first | ((with_reducible refine gate_dst (N := 2) rfl ?_); refine box_event ?hg (N := 2) ?hd (cs := #[.slice A0_0 l0_0.length c0_0, .int .i64 a0_1]) (t := 24) ?hr ?_; (case hd => rfl); (case hg => rfl); (case hr => first | (go_simp; done) | (go_simp; rfl)); intro gb302 hg w5 hbox hb; have n0_ := am' (below_step (by repeat (first | (with_reducible first | exact HB.out | apply ba' | apply bd' | apply be') | exact HB.out)) hb); have n1_ := am' (hbox); have n2_ := am' ((by rw [hg]; exact (below_size (by repeat (first | (with_reducible first | exact HB.out | apply ba' | apply bd' | apply be') | exact HB.out))) : w.heap.size ≤ gb302)); have n3_ := am' ((by rw [hg]; exact (below_size (by repeat (first | (with_reducible first | exact HB.out | apply ba' | apply bd' | apply be') | exact HB.out))) : w.heap.size ≤ gb302)); clear HB; have HB := n0_; have BK302 := n1_; have GW302 := n2_; have GE302 := n3_; clear n0_ n1_ n2_ n3_; clear hb hbox hg) | ((with_reducible refine gate_dst (N := 3) rfl ?_); refine box_event ?hg (N := 3) ?hd (cs := #[.slice A1_0 l1_0.length c1_0, .bool a1_1]) (t := 41) ?hr ?_; (case hd => rfl); (case hg => rfl); (case hr => first | (go_simp; done) | (go_simp; rfl)); intro gb303 hg w6 hbox hb; have n0_ := am' (blk_below (g := gb302) (o := .cells #[.slice A0_0 l0_0.length c0_0, .int .i64 a0_1] 24 (0, 0)) (by (with_reducible repeat (first | refine kn' ?_ _ | refine kd' ?_ | refine ka' ?_ _)); exact BK302.out) hb); have n1_ := am' (below_step (by repeat (first | (with_reducible first | exact HB.out | apply ba' | apply bd' | apply be' | refine bs' ?_ GE302.out) | exact HB.out)) hb); have n2_ := am' (hbox); have n3_ := am' ((by rw [hg]; exact (below_size (by repeat (first | (with_reducible first | exact HB.out | apply ba' | apply bd' | apply be' | refine bs' ?_ GE302.out) | exact HB.out))) : w.heap.size ≤ gb303)); have n4_ := am' ((by rw [hg]; exact (below_size (by repeat (first | (with_reducible first | exact HB.out | apply ba' | apply bd' | apply be' | refine bs' ?_ GE302.out) | exact HB.out))) : w.heap.size ≤ gb303)); have n5_ := am' ((by rw [hg]; exact Nat.ne_of_lt (blk_lt (g := gb302) (o := .cells #[.slice A0_0 l0_0.length c0_0, .int .i64 a0_1] 24 (0, 0)) (by (with_reducible repeat (first | refine kn' ?_ _ | refine kd' ?_ | refine ka' ?_ _)); exact BK302.out)) : gb302 ≠ gb303)); have n6_ := am' ((by rw [hg]; exact Nat.ne_of_gt (blk_lt (g := gb302) (o := .cells #[.slice A0_0 l0_0.length c0_0, .int .i64 a0_1] 24 (0, 0)) (by (with_reducible repeat (first | refine kn' ?_ _ | refine kd' ?_ | refine ka' ?_ _)); exact BK302.out)) : gb303 ≠ gb302)); clear BK302; clear HB; have BK302 := n0_; have HB := n1_; have BK303 := n2_; have GW303 := n3_; have GE303 := n4_; have NB302_303 := n5_; have NB303_302 := n6_; clear n0_ n1_ n2_ n3_ n4_ n5_ n6_; clear hb hbox hg; have hnb7 := NB302_303.out; have hnc7 := NB303_302.out; have hcz8_0 : w6.cell? ⟨gb302, 0, none⟩ = some (.slice A0_0 l0_0.length c0_0) := (blk_cell BK302.out 0).trans rfl; have hcz8_1 : w6.cell? ⟨gb302, 1, none⟩ = some (.int .i64 a0_1) := (blk_cell BK302.out 1).trans rfl; have hfz8_0 := blk_frozen BK302.out 0; have hfz8_1 := blk_frozen BK302.out 1) | ((with_reducible refine gate_callee (f := 16) rfl ?_); refine goesL_ (some 14) rfl rfl Try.func16 (by kernel_rfl) rfl #[.agg #[.slice A0_0 l0_0.length c0_0, .int .i64 a0_1], .int .i64 1048576] rfl (by (try simp only [List.map_toArray, List.map_cons, List.map_nil]); first | done | rfl | (simp only [List.length_drop, List.length_take]; rfl)) ?_; (with_reducible refine (laws_szParty.calls _ _ l0_0 a0_1 1048576 t304 _ ?side1 ?side2 A3.out).mono ?_); (case side1 => repeat (first | exact (Kd.C_below HR0_0.out HB.out) | (with_reducible refine ca' ?_ _) | (with_reducible refine cn' ?_ _) | (with_reducible refine cd' ?_))); (case side2 => exact HC0_0.out); rintro e w9 ⟨rfl, hb⟩; refine ⟨_, rfl, ?_⟩; have n0_ := am' (blk_below (g := gb302) (o := .cells #[.slice A0_0 l0_0.length c0_0, .int .i64 a0_1] 24 (0, 0)) (by (with_reducible repeat (first | refine kn' ?_ _ | refine kd' ?_ | refine ka' ?_ _)); exact BK302.out) hb); have n1_ := am' (blk_below (g := gb303) (o := .cells #[.slice A1_0 l1_0.length c1_0, .bool a1_1] 41 (0, 0)) (by (with_reducible repeat (first | refine kn' ?_ _ | refine kd' ?_ | refine ka' ?_ _)); exact BK303.out) hb); have n2_ := am' (below_step (by repeat (first | (with_reducible first | exact HB.out | apply ba' | apply bd' | apply be' | refine bs' ?_ GE302.out | refine bs' ?_ GE303.out) | exact HB.out)) hb); clear BK302; clear BK303; clear HB; have BK302 := n0_; have BK303 := n1_; have HB := n2_; clear n0_ n1_ n2_; (try clear hb); (try clear hb2); (try clear hk); (try clear hi)))
 (try simp only [Act.put, sa', sb', sc'])
 go_cut [] (fun wc => ∃ (kq : Nat), Aside0 (laws_FnExactTimeFrom.j0 kq t304 l0_0 a0_1 l1_0 a1_1 = some r) ∧ Aside0 (kq ≤ k) ∧ Aside0 (wc.heap[gb302]? = some (.cells #[(.slice A0_0 l0_0.length c0_0), .int .i64 a0_1] 24 (0, 0))) ∧ Aside0 (wc.heap[gb303]? = some (.cells #[(.slice A1_0 l1_0.length c1_0), .bool a1_1] 41 (0, 0))) ∧ Aside0 (Below w.heap.size w wc))
 case first =>
  have H := HC4.out
  clear HC4; by_cases c10 : t304 < 0
  ·
   rw [if_pos c10] at H; have c10b0 : decide (t304 < 0) = true := decide_eq_true c10
   clear c10; (first | rw [c10b0] | (simp only [i64_w, i32_w]; rw [c10b0]) | skip)
   obtain rfl := Option.some.inj H
   go_wp2
   go_ret
   exact ⟨by first | rfl | (simp [errW_none, errW_some] <;> rfl) | (simp [*, errW_none, errW_some] <;> rfl), by repeat (first | (with_reducible first | exact HB.out | apply ba' | apply bd' | apply be' | refine bs' ?_ GE302.out | refine bs' ?_ GE303.out) | exact HB.out)⟩
  ·
   rw [if_neg c10] at H; have c10b0 : decide (t304 < 0) = false := decide_eq_false c10
   clear c10; (first | rw [c10b0] | (simp only [i64_w, i32_w]; rw [c10b0]) | skip)
   have H' := am' H
   clear H; go_wp2
   go_meet
   case rel => exact ⟨_, H', ⟨by first | omega | exact Nat.le_refl _⟩, ⟨by (with_reducible repeat (first | refine kn' ?_ _ | refine kd' ?_ | refine ka' ?_ _)); exact BK302.out⟩, ⟨by (with_reducible repeat (first | refine kn' ?_ _ | refine kd' ?_ | refine ka' ?_ _)); exact BK303.out⟩, ⟨by repeat (first | (with_reducible first | exact HB.out | apply ba' | apply bd' | apply be' | refine bs' ?_ GE302.out | refine bs' ?_ GE303.out) | exact HB.out)⟩⟩
 case rest =>
  clear HC4; try clear c1
  try clear p2
  try clear c7
  try clear c10
  try clear c10b0
  try clear hcz8_0
  try clear hcz8_1
  try clear hfz8_0
  try clear hfz8_1
  obtain ⟨kq, HA, HJ3, BK302, BK303, HB⟩ := hcut
  cases kq with
  | zero => exact absurd HA.out (by simp [laws_FnExactTimeFrom.j0])
  | succ kj3 =>
   have H := HA.out
   clear HA; simp only [laws_FnExactTimeFrom.j0] at H
   replace H := Option.bind_eq_some_iff.mp H
   obtain ⟨t305, A110, H⟩ := H
   replace H : (if t305 < 0 then (some true) else (laws_FnExactTimeFrom.j1 kj3 l0_0 a0_1 l1_0 a1_1)) = some r := H
   have A11 := am' A110
   clear A110; have HC12 := am' H
   clear H; have hnb13 := NB303_302.out
   have hnc13 := NB302_303.out
   have hcz14_0 : wc.cell? ⟨gb303, 0, none⟩ = some (.slice A1_0 l1_0.length c1_0) := (blk_cell BK303.out 0).trans rfl
   have hcz14_1 : wc.cell? ⟨gb303, 1, none⟩ = some (.bool a1_1) := (blk_cell BK303.out 1).trans rfl
   have hfz14_0 := blk_frozen BK303.out 0
   have hfz14_1 := blk_frozen BK303.out 1
   go_upto_if 21 with (first | ((with_reducible refine gate_callee (f := 35) rfl ?_); refine goesL_ (some 19) rfl rfl Try.func35 (by kernel_rfl) rfl #[.agg #[.slice A1_0 l1_0.length c1_0, .bool a1_1], .int .i64 t304] rfl (by (try simp only [List.map_toArray, List.map_cons, List.map_nil]); first | done | rfl | (simp only [List.length_drop, List.length_take]; rfl)) ?_; (with_reducible refine (laws_szState.calls _ _ l1_0 a1_1 t304 t305 _ ?side1 ?side2 A11.out).mono ?_); (case side1 => repeat (first | exact (Kd.C_below HR1_0.out HB.out) | (with_reducible refine ca' ?_ _) | (with_reducible refine cn' ?_ _) | (with_reducible refine cd' ?_))); (case side2 => exact HC1_0.out); rintro e w15 ⟨rfl, hb⟩; refine ⟨_, rfl, ?_⟩; have n0_ := am' (blk_below (g := gb302) (o := .cells #[.slice A0_0 l0_0.length c0_0, .int .i64 a0_1] 24 (0, 0)) (by (with_reducible repeat (first | refine kn' ?_ _ | refine kd' ?_ | refine ka' ?_ _)); exact BK302.out) hb); have n1_ := am' (blk_below (g := gb303) (o := .cells #[.slice A1_0 l1_0.length c1_0, .bool a1_1] 41 (0, 0)) (by (with_reducible repeat (first | refine kn' ?_ _ | refine kd' ?_ | refine ka' ?_ _)); exact BK303.out) hb); have n2_ := am' (below_step (by repeat (first | (with_reducible first | exact HB.out | apply ba' | apply bd' | apply be' | refine bs' ?_ GE302.out | refine bs' ?_ GE303.out) | exact HB.out)) hb); clear BK302; clear BK303; clear HB; have BK302 := n0_; have BK303 := n1_; have HB := n2_; clear n0_ n1_ n2_; (try clear hb); (try clear hb2); (try clear hk); (try clear hi)))
   (try simp only [Act.put, sa', sb', sc'])
   go_cut [] (fun wc => ∃ (kq : Nat), Aside0 (laws_FnExactTimeFrom.j1 kq l0_0 a0_1 l1_0 a1_1 = some r) ∧ Aside0 (kq ≤ kj3) ∧ Aside0 (wc.heap[gb302]? = some (.cells #[(.slice A0_0 l0_0.length c0_0), .int .i64 a0_1] 24 (0, 0))) ∧ Aside0 (wc.heap[gb303]? = some (.cells #[(.slice A1_0 l1_0.length c1_0), .bool a1_1] 41 (0, 0))) ∧ Aside0 (Below w.heap.size w wc))
   case first =>
    have H := HC12.out
    clear HC12; by_cases c16 : t305 < 0
    ·
     rw [if_pos c16] at H; have c16b0 : decide (t305 < 0) = true := decide_eq_true c16
     clear c16; (first | rw [c16b0] | (simp only [i64_w, i32_w]; rw [c16b0]) | skip)
     obtain rfl := Option.some.inj H
     go_wp2
     go_ret
     exact ⟨by first | rfl | (simp [errW_none, errW_some] <;> rfl) | (simp [*, errW_none, errW_some] <;> rfl), by repeat (first | (with_reducible first | exact HB.out | apply ba' | apply bd' | apply be' | refine bs' ?_ GE302.out | refine bs' ?_ GE303.out) | exact HB.out)⟩
    ·
     rw [if_neg c16] at H; have c16b0 : decide (t305 < 0) = false := decide_eq_false c16
     clear c16; (first | rw [c16b0] | (simp only [i64_w, i32_w]; rw [c16b0]) | skip)
     have H' := am' H
     clear H; go_wp2
     go_meet
     case rel => exact ⟨_, H', ⟨by have := HJ3.out; first | omega | exact Nat.le_refl _⟩, ⟨by (with_reducible repeat (first | refine kn' ?_ _ | refine kd' ?_ | refine ka' ?_ _)); exact BK302.out⟩, ⟨by (with_reducible repeat (first | refine kn' ?_ _ | refine kd' ?_ | refine ka' ?_ _)); exact BK303.out⟩, ⟨by repeat (first | (with_reducible first | exact HB.out | apply ba' | apply bd' | apply be' | refine bs' ?_ GE302.out | refine bs' ?_ GE303.out) | exact HB.out)⟩⟩
   case rest =>
    clear HC12; try clear c1
    try clear p2
    try clear c3
    try clear c7
    try clear c10
    try clear c10b0
    try clear c13
    try clear c16
    try clear c16b0
    try clear hcz14_0
    try clear hcz14_1
    try clear hcz8_0
    try clear hcz8_1
    try clear hfz14_0
    try clear hfz14_1
    try clear hfz8_0
    try clear hfz8_1
    try clear p2
    obtain ⟨kq, HA, HJ11, BK302, BK303, HB⟩ := hcut
    cases kq with
    | zero => exact absurd HA.out (by simp [laws_FnExactTimeFrom.j1])
    | succ kj11 =>
     have H := HA.out
     clear HA; simp only [laws_FnExactTimeFrom.j1] at H
     replace H := Option.bind_eq_some_iff.mp H
     obtain ⟨⟨t306, t309⟩, A170, H⟩ := H
     replace H : ((laws_toState.f kj11 l1_0 a1_1).bind fun bt310 => ((spec_TimeFrom.f kj11 t306 t309 bt310.1 bt310.2).bind fun bt314 => ((laws_toParty.f kj11 l0_0 a0_1).bind fun bt316 => ((laws_toState.f kj11 l1_0 a1_1).bind fun bt321 => ((impl_TimeFrom.f kj11 bt316.1 bt316.2 bt321.1 bt321.2).bind fun bt326 => (if bt326.1 = bt314.1 then (laws_FnExactTimeFrom.j2 kj11 (bt326.2 != bt314.2) l0_0 a0_1 l1_0 a1_1 bt316.1 bt316.2 bt321.1 bt321.2) else (laws_FnExactTimeFrom.j2 kj11 true l0_0 a0_1 l1_0 a1_1 bt316.1 bt316.2 bt321.1 bt321.2))))))) = some r := H
     have A17 := am' A170
     clear A170; replace H := Option.bind_eq_some_iff.mp H
     obtain ⟨⟨t310, t313⟩, A180, H⟩ := H
     replace H : ((spec_TimeFrom.f kj11 t306 t309 t310 t313).bind fun bt314 => ((laws_toParty.f kj11 l0_0 a0_1).bind fun bt316 => ((laws_toState.f kj11 l1_0 a1_1).bind fun bt321 => ((impl_TimeFrom.f kj11 bt316.1 bt316.2 bt321.1 bt321.2).bind fun bt326 => (if bt326.1 = bt314.1 then (laws_FnExactTimeFrom.j2 kj11 (bt326.2 != bt314.2) l0_0 a0_1 l1_0 a1_1 bt316.1 bt316.2 bt321.1 bt321.2) else (laws_FnExactTimeFrom.j2 kj11 true l0_0 a0_1 l1_0 a1_1 bt316.1 bt316.2 bt321.1 bt321.2)))))) = some r := H
     have A18 := am' A180
     clear A180; replace H := Option.bind_eq_some_iff.mp H
     obtain ⟨⟨t314, t315⟩, A190, H⟩ := H
     replace H : ((laws_toParty.f kj11 l0_0 a0_1).bind fun bt316 => ((laws_toState.f kj11 l1_0 a1_1).bind fun bt321 => ((impl_TimeFrom.f kj11 bt316.1 bt316.2 bt321.1 bt321.2).bind fun bt326 => (if bt326.1 = t314 then (laws_FnExactTimeFrom.j2 kj11 (bt326.2 != t315) l0_0 a0_1 l1_0 a1_1 bt316.1 bt316.2 bt321.1 bt321.2) else (laws_FnExactTimeFrom.j2 kj11 true l0_0 a0_1 l1_0 a1_1 bt316.1 bt316.2 bt321.1 bt321.2))))) = some r := H
     have A19 := am' A190
     clear A190; replace H := Option.bind_eq_some_iff.mp H
     obtain ⟨⟨t316, t319⟩, A200, H⟩ := H
     replace H : ((laws_toState.f kj11 l1_0 a1_1).bind fun bt321 => ((impl_TimeFrom.f kj11 t316 t319 bt321.1 bt321.2).bind fun bt326 => (if bt326.1 = t314 then (laws_FnExactTimeFrom.j2 kj11 (bt326.2 != t315) l0_0 a0_1 l1_0 a1_1 t316 t319 bt321.1 bt321.2) else (laws_FnExactTimeFrom.j2 kj11 true l0_0 a0_1 l1_0 a1_1 t316 t319 bt321.1 bt321.2)))) = some r := H
     have A20 := am' A200
     clear A200; replace H := Option.bind_eq_some_iff.mp H
     obtain ⟨⟨t321, t324⟩, A210, H⟩ := H
     replace H : ((impl_TimeFrom.f kj11 t316 t319 t321 t324).bind fun bt326 => (if bt326.1 = t314 then (laws_FnExactTimeFrom.j2 kj11 (bt326.2 != t315) l0_0 a0_1 l1_0 a1_1 t316 t319 t321 t324) else (laws_FnExactTimeFrom.j2 kj11 true l0_0 a0_1 l1_0 a1_1 t316 t319 t321 t324))) = some r := H
     have A21 := am' A210
     clear A210; replace H := Option.bind_eq_some_iff.mp H
     obtain ⟨⟨t326, t327⟩, A220, H⟩ := H
     replace H : (if t326 = t314 then (laws_FnExactTimeFrom.j2 kj11 (t327 != t315) l0_0 a0_1 l1_0 a1_1 t316 t319 t321 t324) else (laws_FnExactTimeFrom.j2 kj11 true l0_0 a0_1 l1_0 a1_1 t316 t319 t321 t324)) = some r := H
     have A22 := am' A220
     clear A220; have HC23 := am' H
     clear H; try go_wp2
     have n0_ := am' (kd' BK302.out)
     have n1_ := am' (kd' BK303.out)
     have n2_ := am' (be' HB.out)
     clear BK302; clear BK303; clear HB; have BK302 := n0_; have BK303 := n1_; have HB := n2_; clear n0_ n1_ n2_; refine start_ (n := 10) (S := fun w' => w'.cell? ⟨gb302, 0, none⟩ = some (.slice A0_0 l0_0.length c0_0) ∧ w'.cell? ⟨gb302, 1, none⟩ = some (.int .i64 a0_1) ∧ w'.cell? ⟨gb303, 0, none⟩ = some (.slice A1_0 l1_0.length c1_0) ∧ w'.cell? ⟨gb303, 1, none⟩ = some (.bool a1_1)) (ds := []) #[false, false, false, false, false, false, false, false, false, false] (by kernel_rfl) rfl rfl ⟨(blk_cell BK302.out 0).trans rfl, (blk_cell BK302.out 1).trans rfl, (blk_cell BK303.out 0).trans rfl, (blk_cell BK303.out 1).trans rfl⟩ (fun hHeld => ?_); refine with_tabW laws_FnExactTimeFrom.tab8 laws_FnExactTimeFrom.bits8 (fun HT_ HW_ => ?_)
     generalize wc.drew = w24 at BK302 BK303 HB hHeld ⊢
     refine take_ (i := 0) (N := some 23) (v := ?_) (a' := ?_) #[true, false, false, false, false, false, false, false, false, false] rfl rfl (take_ofW HT_.out HW_.out (by kernel_rfl)) (fun _ _ _ h => h) (Or.inl ⟨by rfl, ?_⟩) hHeld ?_ ?_
     rotate_left
     ·
      rintro w' ⟨s0, s1, s2, s3⟩
      go_simp; with_reducible rfl
     rotate_left
     ·
      simp only [Act.put, sa', sb', sc', i64_w, i32_w]
      rfl
     refine take_ (i := 2) (N := some 25) (v := ?_) (a' := ?_) #[true, false, true, false, false, false, false, false, false, false] rfl rfl (take_ofW HT_.out HW_.out (by kernel_rfl)) (fun _ _ _ h => h) (Or.inl ⟨by rfl, ?_⟩) hHeld ?_ ?_
     rotate_left
     ·
      rintro w' ⟨s0, s1, s2, s3⟩
      go_simp; with_reducible rfl
     rotate_left
     ·
      simp only [Act.put, sa', sb', sc', i64_w, i32_w]
      rfl
     refine one_ (i := 1) (N := some 24) #[true, true, true, false, false, false, false, false, false, false] rfl rfl (one_of HT_.out (by kernel_rfl)) (by decide) (fun K hK => ?_)
     refine goes_ Try.func18 (by kernel_rfl) rfl #[.agg #[.slice A0_0 l0_0.length c0_0, .int .i64 a0_1]] (by rfl) rfl rfl (by (try simp only [List.map_toArray, List.map_cons, List.map_nil]); first | done | rfl | (simp only [List.length_drop, List.length_take]; rfl)) ?_
     with_reducible refine (laws_toParty.calls kj11 _ _ l0_0 a0_1 t306 t309 _ ?side1 ?side2 A17.out).mono ?_
     (case side1 => repeat (first | exact (Kd.C_below HR0_0.out HB.out) | (with_reducible refine ca' ?_ _) | (with_reducible refine cn' ?_ _) | (with_reducible refine cd' ?_)))
     (case side2 => exact HC0_0.out)
     rintro e w25 ⟨v307, rfl, ho0, hb⟩
     refine ⟨_, rfl, ?_⟩
     have n0_ := am' (Kd.R_lower ho0 (below_size (by repeat (first | (with_reducible first | exact HB.out | apply ba' | apply bd' | apply be' | refine bs' ?_ GE302.out | refine bs' ?_ GE303.out) | exact HB.out))))
     have n1_ := am' (blk_below (g := gb302) (o := .cells #[.slice A0_0 l0_0.length c0_0, .int .i64 a0_1] 24 (0, 0)) (by (with_reducible repeat (first | refine kn' ?_ _ | refine kd' ?_ | refine ka' ?_ _)); exact BK302.out) hb)
     have n2_ := am' (blk_below (g := gb303) (o := .cells #[.slice A1_0 l1_0.length c1_0, .bool a1_1] 41 (0, 0)) (by (with_reducible repeat (first | refine kn' ?_ _ | refine kd' ?_ | refine ka' ?_ _)); exact BK303.out) hb)
     have n3_ := am' (below_step (by repeat (first | (with_reducible first | exact HB.out | apply ba' | apply bd' | apply be' | refine bs' ?_ GE302.out | refine bs' ?_ GE303.out) | exact HB.out)) hb)
     clear BK302; clear BK303; clear HB; have HO308 := n0_; have BK302 := n1_; have BK303 := n2_; have HB := n3_; clear n0_ n1_ n2_ n3_; (try clear hb)
     (try clear hb2)
     (try clear hk)
     (try clear hi)
     (try clear ho0)
     refine hK.out _ _ ⟨(blk_cell BK302.out 0).trans rfl, (blk_cell BK302.out 1).trans rfl, (blk_cell BK303.out 0).trans rfl, (blk_cell BK303.out 1).trans rfl⟩ (fun hHeld => ?_)
     clear hK K; refine norm_ (a' := ?_) ?_ ?_
     rotate_left
     ·
      show Act.put _ (some 24) _ = _
      simp only [Act.put, sa', sb', sc', i64_w, i32_w]
      rfl
     refine one_ (i := 3) (N := some 26) #[true, true, true, true, false, false, false, false, false, false] rfl rfl (one_of HT_.out (by kernel_rfl)) (by decide) (fun K hK => ?_)
     refine goes_ Try.func37 (by kernel_rfl) rfl #[.agg #[.slice A1_0 l1_0.length c1_0, .bool a1_1]] (by rfl) rfl rfl (by (try simp only [List.map_toArray, List.map_cons, List.map_nil]); first | done | rfl | (simp only [List.length_drop, List.length_take]; rfl)) ?_
     with_reducible refine (laws_toState.calls kj11 _ _ l1_0 a1_1 t310 t313 _ ?side1 ?side2 A18.out).mono ?_
     (case side1 => repeat (first | exact (Kd.C_below HR1_0.out HB.out) | (with_reducible refine ca' ?_ _) | (with_reducible refine cn' ?_ _) | (with_reducible refine cd' ?_)))
     (case side2 => exact HC1_0.out)
     rintro e w26 ⟨v311, rfl, ho0, hb⟩
     refine ⟨_, rfl, ?_⟩
     have n0_ := am' (Kd.R_below (by (with_reducible repeat (first | apply ra' | apply rn' | apply rw')); exact HO308.out) hb)
     have n1_ := am' (Kd.R_lower ho0 (below_size (by repeat (first | (with_reducible first | exact HB.out | apply ba' | apply bd' | apply be' | refine bs' ?_ GE302.out | refine bs' ?_ GE303.out) | exact HB.out))))
     have n2_ := am' (blk_below (g := gb302) (o := .cells #[.slice A0_0 l0_0.length c0_0, .int .i64 a0_1] 24 (0, 0)) (by (with_reducible repeat (first | refine kn' ?_ _ | refine kd' ?_ | refine ka' ?_ _)); exact BK302.out) hb)
     have n3_ := am' (blk_below (g := gb303) (o := .cells #[.slice A1_0 l1_0.length c1_0, .bool a1_1] 41 (0, 0)) (by (with_reducible repeat (first | refine kn' ?_ _ | refine kd' ?_ | refine ka' ?_ _)); exact BK303.out) hb)
     have n4_ := am' (below_step (by repeat (first | (with_reducible first | exact HB.out | apply ba' | apply bd' | apply be' | refine bs' ?_ GE302.out | refine bs' ?_ GE303.out) | exact HB.out)) hb)
     clear HO308; clear BK302; clear BK303; clear HB; have HO308 := n0_; have HO312 := n1_; have BK302 := n2_; have BK303 := n3_; have HB := n4_; clear n0_ n1_ n2_ n3_ n4_; (try clear hb)
     (try clear hb2)
     (try clear hk)
     (try clear hi)
     (try clear ho0)
     obtain ⟨Ao27, co27, eo27⟩ := Kd.R_slice HO308.out
     (first | subst eo27 | (injection eo27 with f1_ f2_ f3_; have f4_ := f1_.symm; have f5_ := f3_.symm; clear f1_ f2_ f3_; subst f4_; subst f5_))
     obtain ⟨Ao28, co28, eo28⟩ := Kd.R_slice HO312.out
     (first | subst eo28 | (injection eo28 with f1_ f2_ f3_; have f4_ := f1_.symm; have f5_ := f3_.symm; clear f1_ f2_ f3_; subst f4_; subst f5_))
     refine hK.out _ _ ⟨(blk_cell BK302.out 0).trans rfl, (blk_cell BK302.out 1).trans rfl, (blk_cell BK303.out 0).trans rfl, (blk_cell BK303.out 1).trans rfl⟩ (fun hHeld => ?_)
     clear hK K; refine norm_ (a' := ?_) ?_ ?_
     rotate_left
     ·
      show Act.put _ (some 26) _ = _
      simp only [Act.put, sa', sb', sc', i64_w, i32_w]
      rfl
     refine one_ (i := 4) (N := some 27) #[true, true, true, true, true, false, false, false, false, false] rfl rfl (one_of HT_.out (by kernel_rfl)) (by decide) (fun K hK => ?_)
     refine goes_ Try.func40 (by kernel_rfl) rfl #[.agg #[.slice Ao27 t306.length co27, .int .i64 t309], .agg #[.slice Ao28 t310.length co28, .bool t313]] (by rfl) rfl rfl (by (try simp only [List.map_toArray, List.map_cons, List.map_nil]); first | done | rfl | (simp only [List.length_drop, List.length_take]; rfl)) ?_
     with_reducible refine (spec_TimeFrom.calls kj11 _ _ t306 t309 _ _ t310 t313 t314 t315 _ ?side1 ?side2 ?side3 ?side4 A19.out).mono ?_
     (case side1 => repeat (first | exact (Kd.R_reads' HO308.out).2.2 | (with_reducible refine ca' ?_ _) | (with_reducible refine cn' ?_ _) | (with_reducible refine cd' ?_)))
     (case side2 => exact (Kd.R_reads' HO308.out).2.1)
     (case side3 => repeat (first | exact (Kd.R_reads' HO312.out).2.2 | (with_reducible refine ca' ?_ _) | (with_reducible refine cn' ?_ _) | (with_reducible refine cd' ?_)))
     (case side4 => exact (Kd.R_reads' HO312.out).2.1)
     rintro e w29 ⟨rfl, hb⟩
     refine ⟨_, rfl, ?_⟩
     have n0_ := am' (Kd.R_below (by (with_reducible repeat (first | apply ra' | apply rn' | apply rw')); exact HO308.out) hb)
     have n1_ := am' (Kd.R_below (by (with_reducible repeat (first | apply ra' | apply rn' | apply rw')); exact HO312.out) hb)
     have n2_ := am' (blk_below (g := gb302) (o := .cells #[.slice A0_0 l0_0.length c0_0, .int .i64 a0_1] 24 (0, 0)) (by (with_reducible repeat (first | refine kn' ?_ _ | refine kd' ?_ | refine ka' ?_ _)); exact BK302.out) hb)
     have n3_ := am' (blk_below (g := gb303) (o := .cells #[.slice A1_0 l1_0.length c1_0, .bool a1_1] 41 (0, 0)) (by (with_reducible repeat (first | refine kn' ?_ _ | refine kd' ?_ | refine ka' ?_ _)); exact BK303.out) hb)
     have n4_ := am' (below_step (by repeat (first | (with_reducible first | exact HB.out | apply ba' | apply bd' | apply be' | refine bs' ?_ GE302.out | refine bs' ?_ GE303.out) | exact HB.out)) hb)
     clear HO308; clear HO312; clear BK302; clear BK303; clear HB; have HO308 := n0_; have HO312 := n1_; have BK302 := n2_; have BK303 := n3_; have HB := n4_; clear n0_ n1_ n2_ n3_ n4_; (try clear hb)
     (try clear hb2)
     (try clear hk)
     (try clear hi)
     refine hK.out _ _ ⟨(blk_cell BK302.out 0).trans rfl, (blk_cell BK302.out 1).trans rfl, (blk_cell BK303.out 0).trans rfl, (blk_cell BK303.out 1).trans rfl⟩ (fun hHeld => ?_)
     clear hK K; refine norm_ (a' := ?_) ?_ ?_
     rotate_left
     ·
      show Act.put _ (some 27) _ = _
      simp only [Act.put, sa', sb', sc', i64_w, i32_w]
      rfl
     refine pure_ (i := 5) (N := some 22) (v := ?_) (a' := ?_) #[true, true, true, true, true, true, false, false, false, false] rfl rfl (any_of HT_.out (by kernel_rfl)) (fun _ _ _ h => h) (Or.inl ⟨by rfl, ?_⟩) ?_ ?_
     rotate_left
     ·
      intro w'; go_simp; with_reducible rfl
     rotate_left
     ·
      simp only [Act.put, sa', sb', sc', i64_w, i32_w]
      rfl
     refine pure_ (i := 6) (N := some 28) (v := ?_) (a' := ?_) #[true, true, true, true, true, true, true, false, false, false] rfl rfl (any_of HT_.out (by kernel_rfl)) (fun _ _ _ h => h) (Or.inl ⟨by rfl, ?_⟩) ?_ ?_
     rotate_left
     ·
      intro w'; go_simp; with_reducible rfl
     rotate_left
     ·
      simp only [Act.put, sa', sb', sc', i64_w, i32_w]
      rfl
     refine pure_ (i := 7) (N := some 29) (v := ?_) (a' := ?_) #[true, true, true, true, true, true, true, true, false, false] rfl rfl (any_of HT_.out (by kernel_rfl)) (fun _ _ _ h => h) (Or.inl ⟨by rfl, ?_⟩) ?_ ?_
     rotate_left
     ·
      intro w'; go_simp; with_reducible rfl
     rotate_left
     ·
      simp only [Act.put, sa', sb', sc', i64_w, i32_w]
      rfl
     refine pure_ (i := 8) (N := some 6) (v := ?_) (a' := ?_) #[true, true, true, true, true, true, true, true, true, false] rfl rfl (any_of HT_.out (by kernel_rfl)) (fun _ _ _ h => h) (Or.inl ⟨by rfl, ?_⟩) ?_ ?_
     rotate_left
     ·
      intro w'; go_simp; with_reducible rfl
     rotate_left
     ·
      simp only [Act.put, sa', sb', sc', i64_w, i32_w]
      rfl
     refine pure_ (i := 9) (N := some 7) (v := ?_) (a' := ?_) #[true, true, true, true, true, true, true, true, true, true] rfl rfl (any_of HT_.out (by kernel_rfl)) (fun _ _ _ h => h) (Or.inl ⟨by rfl, ?_⟩) ?_ ?_
     rotate_left
     ·
      intro w'; go_simp; with_reducible rfl
     rotate_left
     ·
      simp only [Act.put, sa', sb', sc', i64_w, i32_w]
      rfl
     refine done_ (done_of HT_.out (by kernel_rfl)) ?_
     have hnb30 := NB302_303.out
     have hnc30 := NB303_302.out
     have hcz31_0 : w29.cell? ⟨gb302, 0, none⟩ = some (.slice A0_0 l0_0.length c0_0) := (blk_cell BK302.out 0).trans rfl
     have hcz31_1 : w29.cell? ⟨gb302, 1, none⟩ = some (.int .i64 a0_1) := (blk_cell BK302.out 1).trans rfl
     have hfz31_0 := blk_frozen BK302.out 0
     have hfz31_1 := blk_frozen BK302.out 1
     go_upto_region 12 with (first | ((with_reducible refine gate_callee (f := 18) rfl ?_); refine goesL_ (some 31) rfl rfl Try.func18 (by kernel_rfl) rfl #[.agg #[.slice A0_0 l0_0.length c0_0, .int .i64 a0_1]] rfl (by (try simp only [List.map_toArray, List.map_cons, List.map_nil]); first | done | rfl | (simp only [List.length_drop, List.length_take]; rfl)) ?_; (with_reducible refine (laws_toParty.calls kj11 _ _ l0_0 a0_1 t316 t319 _ ?side1 ?side2 A20.out).mono ?_); (case side1 => repeat (first | exact (Kd.C_below HR0_0.out HB.out) | (with_reducible refine ca' ?_ _) | (with_reducible refine cn' ?_ _) | (with_reducible refine cd' ?_))); (case side2 => exact HC0_0.out); rintro e w32 ⟨v317, rfl, ho0, hb⟩; refine ⟨_, rfl, ?_⟩; obtain ⟨D338_, hdl_, hdg_⟩ := dlt_of hb; have D338_lt := am' hdl_; have D338_ge := am' hdg_; clear hdl_ hdg_; have n0_ := am' (Kd.R_elder' (Kd.R_dlt (by (with_reducible repeat (first | apply ra' | apply rn' | apply rw')); exact HO308.out) D338_lt.out) (Kd.R_base ho0) hb); have n1_ := am' (Kd.R_below (Kd.R_dlt (by (with_reducible repeat (first | apply ra' | apply rn' | apply rw')); exact HO312.out) D338_lt.out) hb); have n2_ := am' (Kd.R_lower (Kd.R_new' (Kd.R_dge ho0 D338_ge.out) (Kd.R_lt (by (with_reducible repeat (first | apply ra' | apply rn' | apply rw')); exact HO308.out))) (below_size (by repeat (first | (with_reducible first | exact HB.out | apply ba' | apply bd' | apply be' | refine bs' ?_ GE302.out | refine bs' ?_ GE303.out) | exact HB.out)))); have n3_ := am' (blk_below (g := gb302) (o := .cells #[.slice A0_0 l0_0.length c0_0, .int .i64 a0_1] 24 (0, 0)) (by (with_reducible repeat (first | refine kn' ?_ _ | refine kd' ?_ | refine ka' ?_ _)); exact BK302.out) hb); have n4_ := am' (blk_below (g := gb303) (o := .cells #[.slice A1_0 l1_0.length c1_0, .bool a1_1] 41 (0, 0)) (by (with_reducible repeat (first | refine kn' ?_ _ | refine kd' ?_ | refine ka' ?_ _)); exact BK303.out) hb); have n5_ := am' (below_step (by repeat (first | (with_reducible first | exact HB.out | apply ba' | apply bd' | apply be' | refine bs' ?_ GE302.out | refine bs' ?_ GE303.out) | exact HB.out)) hb); clear HO308; clear HO312; clear BK302; clear BK303; clear HB; have HO308 := n0_; have HO312 := n1_; have HO318 := n2_; have BK302 := n3_; have BK303 := n4_; have HB := n5_; clear n0_ n1_ n2_ n3_ n4_ n5_; (try clear hb); (try clear hb2); (try clear hk); (try clear hi); (try clear ho0)) | ((with_reducible refine gate_dst (N := 8) rfl ?_); refine box_event ?hg (N := 8) ?hd (cs := #[.slice none 0 0, .int .i64 0]) (t := 28) ?hr ?_; (case hd => rfl); (case hg => rfl); (case hr => first | (go_simp; done) | (go_simp; rfl)); intro gb320 hg w33 hbox hb; have n0_ := am' (Kd.R_below (by (with_reducible repeat (first | apply ra' | apply rn' | apply rw')); exact HO308.out) hb); have n1_ := am' (Kd.R_below (by (with_reducible repeat (first | apply ra' | apply rn' | apply rw')); exact HO312.out) hb); have n2_ := am' (Kd.R_below (by (with_reducible repeat (first | apply ra' | apply rn' | apply rw')); exact HO318.out) hb); have n3_ := am' (blk_below (g := gb302) (o := .cells #[.slice A0_0 l0_0.length c0_0, .int .i64 a0_1] 24 (0, 0)) (by (with_reducible repeat (first | refine kn' ?_ _ | refine kd' ?_ | refine ka' ?_ _)); exact BK302.out) hb); have n4_ := am' (blk_below (g := gb303) (o := .cells #[.slice A1_0 l1_0.length c1_0, .bool a1_1] 41 (0, 0)) (by (with_reducible repeat (first | refine kn' ?_ _ | refine kd' ?_ | refine ka' ?_ _)); exact BK303.out) hb); have n5_ := am' (below_step (by repeat (first | (with_reducible first | exact HB.out | apply ba' | apply bd' | apply be' | refine bs' ?_ GE302.out | refine bs' ?_ GE303.out) | exact HB.out)) hb); have n6_ := am' (hbox); have n7_ := am' ((by rw [hg]; exact (below_size (by repeat (first | (with_reducible first | exact HB.out | apply ba' | apply bd' | apply be' | refine bs' ?_ GE302.out | refine bs' ?_ GE303.out) | exact HB.out))) : w.heap.size ≤ gb320)); have n8_ := am' ((by rw [hg]; exact (below_size (by repeat (first | (with_reducible first | exact HB.out | apply ba' | apply bd' | apply be' | refine bs' ?_ GE302.out | refine bs' ?_ GE303.out) | exact HB.out))) : w.heap.size ≤ gb320)); have n9_ := am' ((by rw [hg]; exact Nat.ne_of_lt (blk_lt (g := gb302) (o := .cells #[.slice A0_0 l0_0.length c0_0, .int .i64 a0_1] 24 (0, 0)) (by (with_reducible repeat (first | refine kn' ?_ _ | refine kd' ?_ | refine ka' ?_ _)); exact BK302.out)) : gb302 ≠ gb320)); have n10_ := am' ((by rw [hg]; exact Nat.ne_of_gt (blk_lt (g := gb302) (o := .cells #[.slice A0_0 l0_0.length c0_0, .int .i64 a0_1] 24 (0, 0)) (by (with_reducible repeat (first | refine kn' ?_ _ | refine kd' ?_ | refine ka' ?_ _)); exact BK302.out)) : gb320 ≠ gb302)); have n11_ := am' ((by rw [hg]; exact Nat.ne_of_lt (blk_lt (g := gb303) (o := .cells #[.slice A1_0 l1_0.length c1_0, .bool a1_1] 41 (0, 0)) (by (with_reducible repeat (first | refine kn' ?_ _ | refine kd' ?_ | refine ka' ?_ _)); exact BK303.out)) : gb303 ≠ gb320)); have n12_ := am' ((by rw [hg]; exact Nat.ne_of_gt (blk_lt (g := gb303) (o := .cells #[.slice A1_0 l1_0.length c1_0, .bool a1_1] 41 (0, 0)) (by (with_reducible repeat (first | refine kn' ?_ _ | refine kd' ?_ | refine ka' ?_ _)); exact BK303.out)) : gb320 ≠ gb303)); clear HO308; clear HO312; clear HO318; clear BK302; clear BK303; clear HB; have HO308 := n0_; have HO312 := n1_; have HO318 := n2_; have BK302 := n3_; have BK303 := n4_; have HB := n5_; have BK320 := n6_; have GW320 := n7_; have GE320 := n8_; have NB302_320 := n9_; have NB320_302 := n10_; have NB303_320 := n11_; have NB320_303 := n12_; clear n0_ n1_ n2_ n3_ n4_ n5_ n6_ n7_ n8_ n9_ n10_ n11_ n12_; clear hb hbox hg; obtain ⟨Ao34, co34, eo34⟩ := Kd.R_slice HO318.out; subst eo34; have hnb35 := NB320_302.out; have hnc35 := NB302_320.out; have hnb36 := NB320_303.out; have hnc36 := NB303_320.out; have hcz37_0 : w33.cell? ⟨gb320, 0, none⟩ = some (.slice none 0 0) := (blk_cell BK320.out 0).trans rfl; have hcz37_1 : w33.cell? ⟨gb320, 1, none⟩ = some (.int .i64 0) := (blk_cell BK320.out 1).trans rfl; have hfz37_0 := blk_frozen BK320.out 0; have hfz37_1 := blk_frozen BK320.out 1; have hcz38_0 : w33.cell? ⟨gb303, 0, none⟩ = some (.slice A1_0 l1_0.length c1_0) := (blk_cell BK303.out 0).trans rfl; have hcz38_1 : w33.cell? ⟨gb303, 1, none⟩ = some (.bool a1_1) := (blk_cell BK303.out 1).trans rfl; have hfz38_0 := blk_frozen BK303.out 0; have hfz38_1 := blk_frozen BK303.out 1) | ((with_reducible refine gate_callee (f := 37) rfl ?_); refine goesL_ (some 33) rfl rfl Try.func37 (by kernel_rfl) rfl #[.agg #[.slice A1_0 l1_0.length c1_0, .bool a1_1]] rfl (by (try simp only [List.map_toArray, List.map_cons, List.map_nil]); first | done | rfl | (simp only [List.length_drop, List.length_take]; rfl)) ?_; (with_reducible refine (laws_toState.calls kj11 _ _ l1_0 a1_1 t321 t324 _ ?side1 ?side2 A21.out).mono ?_); (case side1 => exact Kd.C_below HR1_0.out (by repeat (first | (with_reducible first | exact HB.out | apply ba' | apply bd' | apply be' | refine bs' ?_ GE302.out | refine bs' ?_ GE303.out | refine bs' ?_ GE320.out) | exact HB.out))); (case side2 => exact HC1_0.out); rintro e w39 ⟨v322, rfl, ho0, hb⟩; refine ⟨_, rfl, ?_⟩; obtain ⟨D339_, hdl_, hdg_⟩ := dlt_of hb; have D339_lt := am' hdl_; have D339_ge := am' hdg_; clear hdl_ hdg_; have n0_ := am' (Kd.R_below (Kd.R_dlt (by (with_reducible repeat (first | apply ra' | apply rn' | apply rw')); exact (Kd.R_mono (Kd.R_far (p := ⟨gb320, 1, none⟩) (Kd.R_far (p := ⟨gb320, 0, none⟩) (Kd.R_types HO308.out BK320.out (by decide)) (fun _ hk => hk.2) (.slice Ao34 t316.length co34)) (fun _ hk => hk.2) (.int .i64 t319)) (fun _ h_ => h_.1))) D339_lt.out) hb); have n1_ := am' (Kd.R_elder' (Kd.R_dlt (by (with_reducible repeat (first | apply ra' | apply rn' | apply rw')); exact (Kd.R_mono (Kd.R_far (p := ⟨gb320, 1, none⟩) (Kd.R_far (p := ⟨gb320, 0, none⟩) (Kd.R_types HO312.out BK320.out (by decide)) (fun _ hk => hk.2) (.slice Ao34 t316.length co34)) (fun _ hk => hk.2) (.int .i64 t319)) (fun _ h_ => h_.1))) D339_lt.out) (Kd.R_base ho0) hb); have n2_ := am' (Kd.R_below (Kd.R_dlt (by (with_reducible repeat (first | apply ra' | apply rn' | apply rw')); exact (Kd.R_mono (Kd.R_far (p := ⟨gb320, 1, none⟩) (Kd.R_far (p := ⟨gb320, 0, none⟩) (Kd.R_types HO318.out BK320.out (by decide)) (fun _ hk => hk.2) (.slice Ao34 t316.length co34)) (fun _ hk => hk.2) (.int .i64 t319)) (fun _ h_ => h_.1))) D339_lt.out) hb); have n3_ := am' (Kd.R_lower (Kd.R_new' (Kd.R_dge ho0 D339_ge.out) (Kd.R_lt (by (with_reducible repeat (first | apply ra' | apply rn' | apply rw')); exact (Kd.R_mono (Kd.R_far (p := ⟨gb320, 1, none⟩) (Kd.R_far (p := ⟨gb320, 0, none⟩) (Kd.R_types HO312.out BK320.out (by decide)) (fun _ hk => hk.2) (.slice Ao34 t316.length co34)) (fun _ hk => hk.2) (.int .i64 t319)) (fun _ h_ => h_.1))))) (below_size (by repeat (first | (with_reducible first | exact HB.out | apply ba' | apply bd' | apply be' | refine bs' ?_ GE302.out | refine bs' ?_ GE303.out | refine bs' ?_ GE320.out) | exact HB.out)))); have n4_ := am' (blk_below (g := gb302) (o := .cells #[.slice A0_0 l0_0.length c0_0, .int .i64 a0_1] 24 (0, 0)) (by (with_reducible repeat (first | refine kn' ?_ _ | refine kd' ?_ | refine ka' ?_ _)); refine blk_far ?_ NB302_320.out _; (with_reducible repeat (first | refine kn' ?_ _ | refine kd' ?_ | refine ka' ?_ _)); refine blk_far ?_ NB302_320.out _; (with_reducible repeat (first | refine kn' ?_ _ | refine kd' ?_ | refine ka' ?_ _)); exact BK302.out) hb); have n5_ := am' (blk_below (g := gb303) (o := .cells #[.slice A1_0 l1_0.length c1_0, .bool a1_1] 41 (0, 0)) (by (with_reducible repeat (first | refine kn' ?_ _ | refine kd' ?_ | refine ka' ?_ _)); refine blk_far ?_ NB303_320.out _; (with_reducible repeat (first | refine kn' ?_ _ | refine kd' ?_ | refine ka' ?_ _)); refine blk_far ?_ NB303_320.out _; (with_reducible repeat (first | refine kn' ?_ _ | refine kd' ?_ | refine ka' ?_ _)); exact BK303.out) hb); have n6_ := am' (blk_below (g := gb320) (o := .cells #[.slice Ao34 t316.length co34, .int .i64 t319] 28 (0, 0)) (by (with_reducible repeat (first | refine kn' ?_ _ | refine kd' ?_ | refine ka' ?_ _)); refine blk_put (cs := #[.slice Ao34 t316.length co34, .int .i64 0]) ?_ 1 _ rfl; (with_reducible repeat (first | refine kn' ?_ _ | refine kd' ?_ | refine ka' ?_ _)); refine blk_put (cs := #[.slice none 0 0, .int .i64 0]) ?_ 0 _ rfl; (with_reducible repeat (first | refine kn' ?_ _ | refine kd' ?_ | refine ka' ?_ _)); exact BK320.out) hb); have n7_ := am' (below_step (by repeat (first | (with_reducible first | exact HB.out | apply ba' | apply bd' | apply be' | refine bs' ?_ GE302.out | refine bs' ?_ GE303.out | refine bs' ?_ GE320.out) | exact HB.out)) hb); clear HO308; clear HO312; clear HO318; clear BK302; clear BK303; clear BK320; clear HB; have HO308 := n0_; have HO312 := n1_; have HO318 := n2_; have HO323 := n3_; have BK302 := n4_; have BK303 := n5_; have BK320 := n6_; have HB := n7_; clear n0_ n1_ n2_ n3_ n4_ n5_ n6_ n7_; (try clear hb); (try clear hb2); (try clear hk); (try clear hi); (try clear ho0)) | ((with_reducible refine gate_dst (N := 9) rfl ?_); refine box_event ?hg (N := 9) ?hd (cs := #[.slice none 0 0, .bool false]) (t := 44) ?hr ?_; (case hd => rfl); (case hg => rfl); (case hr => first | (go_simp; done) | (go_simp; rfl)); intro gb325 hg w40 hbox hb; have n0_ := am' (Kd.R_below (by (with_reducible repeat (first | apply ra' | apply rn' | apply rw')); exact HO308.out) hb); have n1_ := am' (Kd.R_below (by (with_reducible repeat (first | apply ra' | apply rn' | apply rw')); exact HO312.out) hb); have n2_ := am' (Kd.R_below (by (with_reducible repeat (first | apply ra' | apply rn' | apply rw')); exact HO318.out) hb); have n3_ := am' (Kd.R_below (by (with_reducible repeat (first | apply ra' | apply rn' | apply rw')); exact HO323.out) hb); have n4_ := am' (blk_below (g := gb302) (o := .cells #[.slice A0_0 l0_0.length c0_0, .int .i64 a0_1] 24 (0, 0)) (by (with_reducible repeat (first | refine kn' ?_ _ | refine kd' ?_ | refine ka' ?_ _)); exact BK302.out) hb); have n5_ := am' (blk_below (g := gb303) (o := .cells #[.slice A1_0 l1_0.length c1_0, .bool a1_1] 41 (0, 0)) (by (with_reducible repeat (first | refine kn' ?_ _ | refine kd' ?_ | refine ka' ?_ _)); exact BK303.out) hb); have n6_ := am' (blk_below (g := gb320) (o := .cells #[.slice Ao34 t316.length co34, .int .i64 t319] 28 (0, 0)) (by (with_reducible repeat (first | refine kn' ?_ _ | refine kd' ?_ | refine ka' ?_ _)); exact BK320.out) hb); have n7_ := am' (below_step (by repeat (first | (with_reducible first | exact HB.out | apply ba' | apply bd' | apply be' | refine bs' ?_ GE302.out | refine bs' ?_ GE303.out | refine bs' ?_ GE320.out) | exact HB.out)) hb); have n8_ := am' (hbox); have n9_ := am' ((by rw [hg]; exact (below_size (by repeat (first | (with_reducible first | exact HB.out | apply ba' | apply bd' | apply be' | refine bs' ?_ GE302.out | refine bs' ?_ GE303.out | refine bs' ?_ GE320.out) | exact HB.out))) : w.heap.size ≤ gb325)); have n10_ := am' ((by rw [hg]; exact (below_size (by repeat (first | (with_reducible first | exact HB.out | apply ba' | apply bd' | apply be' | refine bs' ?_ GE302.out | refine bs' ?_ GE303.out | refine bs' ?_ GE320.out) | exact HB.out))) : w.heap.size ≤ gb325)); have n11_ := am' ((by rw [hg]; exact Nat.ne_of_lt (blk_lt (g := gb302) (o := .cells #[.slice A0_0 l0_0.length c0_0, .int .i64 a0_1] 24 (0, 0)) (by (with_reducible repeat (first | refine kn' ?_ _ | refine kd' ?_ | refine ka' ?_ _)); exact BK302.out)) : gb302 ≠ gb325)); have n12_ := am' ((by rw [hg]; exact Nat.ne_of_gt (blk_lt (g := gb302) (o := .cells #[.slice A0_0 l0_0.length c0_0, .int .i64 a0_1] 24 (0, 0)) (by (with_reducible repeat (first | refine kn' ?_ _ | refine kd' ?_ | refine ka' ?_ _)); exact BK302.out)) : gb325 ≠ gb302)); have n13_ := am' ((by rw [hg]; exact Nat.ne_of_lt (blk_lt (g := gb303) (o := .cells #[.slice A1_0 l1_0.length c1_0, .bool a1_1] 41 (0, 0)) (by (with_reducible repeat (first | refine kn' ?_ _ | refine kd' ?_ | refine ka' ?_ _)); exact BK303.out)) : gb303 ≠ gb325)); have n14_ := am' ((by rw [hg]; exact Nat.ne_of_gt (blk_lt (g := gb303) (o := .cells #[.slice A1_0 l1_0.length c1_0, .bool a1_1] 41 (0, 0)) (by (with_reducible repeat (first | refine kn' ?_ _ | refine kd' ?_ | refine ka' ?_ _)); exact BK303.out)) : gb325 ≠ gb303)); have n15_ := am' ((by rw [hg]; exact Nat.ne_of_lt (blk_lt (g := gb320) (o := .cells #[.slice Ao34 t316.length co34, .int .i64 t319] 28 (0, 0)) (by (with_reducible repeat (first | refine kn' ?_ _ | refine kd' ?_ | refine ka' ?_ _)); exact BK320.out)) : gb320 ≠ gb325)); have n16_ := am' ((by rw [hg]; exact Nat.ne_of_gt (blk_lt (g := gb320) (o := .cells #[.slice Ao34 t316.length co34, .int .i64 t319] 28 (0, 0)) (by (with_reducible repeat (first | refine kn' ?_ _ | refine kd' ?_ | refine ka' ?_ _)); exact BK320.out)) : gb325 ≠ gb320)); clear HO308; clear HO312; clear HO318; clear HO323; clear BK302; clear BK303; clear BK320; clear HB; have HO308 := n0_; have HO312 := n1_; have HO318 := n2_; have HO323 := n3_; have BK302 := n4_; have BK303 := n5_; have BK320 := n6_; have HB := n7_; have BK325 := n8_; have GW325 := n9_; have GE325 := n10_; have NB302_325 := n11_; have NB325_302 := n12_; have NB303_325 := n13_; have NB325_303 := n14_; have NB320_325 := n15_; have NB325_320 := n16_; clear n0_ n1_ n2_ n3_ n4_ n5_ n6_ n7_ n8_ n9_ n10_ n11_ n12_ n13_ n14_ n15_ n16_; clear hb hbox hg; obtain ⟨Ao41, co41, eo41⟩ := Kd.R_slice HO323.out; subst eo41; have hnb42 := NB325_302.out; have hnc42 := NB302_325.out; have hnb43 := NB325_303.out; have hnc43 := NB303_325.out; have hnb44 := NB325_320.out; have hnc44 := NB320_325.out; have hcz45_0 : w40.cell? ⟨gb325, 0, none⟩ = some (.slice none 0 0) := (blk_cell BK325.out 0).trans rfl; have hcz45_1 : w40.cell? ⟨gb325, 1, none⟩ = some (.bool false) := (blk_cell BK325.out 1).trans rfl; have hfz45_0 := blk_frozen BK325.out 0; have hfz45_1 := blk_frozen BK325.out 1; have hcz46_0 : w40.cell? ⟨gb320, 0, none⟩ = some (.slice Ao34 t316.length co34) := (blk_cell BK320.out 0).trans rfl; have hcz46_1 : w40.cell? ⟨gb320, 1, none⟩ = some (.int .i64 t319) := (blk_cell BK320.out 1).trans rfl; have hfz46_0 := blk_frozen BK320.out 0; have hfz46_1 := blk_frozen BK320.out 1) | ((with_reducible refine gate_callee (f := 41) rfl ?_); refine goesL_ (some 37) rfl rfl Try.func41 (by kernel_rfl) rfl #[.agg #[.slice Ao34 t316.length co34, .int .i64 t319], .agg #[.slice Ao41 t321.length co41, .bool t324]] rfl (by (try simp only [List.map_toArray, List.map_cons, List.map_nil]); first | done | rfl | (simp only [List.length_drop, List.length_take]; rfl)) ?_; (with_reducible refine (impl_TimeFrom.calls kj11 _ _ t316 t319 _ _ t321 t324 t326 t327 _ ?side1 ?side2 ?side3 ?side4 A22.out).mono ?_); (case side1 => refine (Kd.R_reads' (e := 3) (base := w.heap.size) (ok := fun k_ => (((True ∧ ¬ D338_ k_) ∧ some k_ ≠ (.slice Ao27 t306.length co27 : Value).ownBlock) ∧ D339_ k_)) (n := t316.length) (c := co34) ?_).2.2; exact (by (with_reducible repeat (first | apply ra' | apply rn' | apply rw')); exact (Kd.R_mono (Kd.R_far (p := ⟨gb325, 1, none⟩) (Kd.R_far (p := ⟨gb325, 0, none⟩) (Kd.R_types HO318.out BK325.out (by decide)) (fun _ hk => hk.2) (.slice Ao41 t321.length co41)) (fun _ hk => hk.2) (.bool t324)) (fun _ h_ => h_.1)))); (case side2 => exact (Kd.R_reads' HO318.out).2.1); (case side3 => refine (Kd.R_reads' (e := 4) (base := w.heap.size) (ok := fun k_ => ((True ∧ ¬ D339_ k_) ∧ some k_ ≠ (.slice Ao28 t310.length co28 : Value).ownBlock)) (n := t321.length) (c := co41) ?_).2.2; exact (by (with_reducible repeat (first | apply ra' | apply rn' | apply rw')); exact (Kd.R_mono (Kd.R_far (p := ⟨gb325, 1, none⟩) (Kd.R_far (p := ⟨gb325, 0, none⟩) (Kd.R_types HO323.out BK325.out (by decide)) (fun _ hk => hk.2) (.slice Ao41 t321.length co41)) (fun _ hk => hk.2) (.bool t324)) (fun _ h_ => h_.1)))); (case side4 => exact (Kd.R_reads' HO323.out).2.1); rintro e w47 ⟨rfl, hb⟩; refine ⟨_, rfl, ?_⟩; have n0_ := am' (Kd.R_below (by (with_reducible repeat (first | apply ra' | apply rn' | apply rw')); exact (Kd.R_mono (Kd.R_far (p := ⟨gb325, 1, none⟩) (Kd.R_far (p := ⟨gb325, 0, none⟩) (Kd.R_types HO308.out BK325.out (by decide)) (fun _ hk => hk.2) (.slice Ao41 t321.length co41)) (fun _ hk => hk.2) (.bool t324)) (fun _ h_ => h_.1))) hb); have n1_ := am' (Kd.R_below (by (with_reducible repeat (first | apply ra' | apply rn' | apply rw')); exact (Kd.R_mono (Kd.R_far (p := ⟨gb325, 1, none⟩) (Kd.R_far (p := ⟨gb325, 0, none⟩) (Kd.R_types HO312.out BK325.out (by decide)) (fun _ hk => hk.2) (.slice Ao41 t321.length co41)) (fun _ hk => hk.2) (.bool t324)) (fun _ h_ => h_.1))) hb); have n2_ := am' (Kd.R_below (by (with_reducible repeat (first | apply ra' | apply rn' | apply rw')); exact (Kd.R_mono (Kd.R_far (p := ⟨gb325, 1, none⟩) (Kd.R_far (p := ⟨gb325, 0, none⟩) (Kd.R_types HO318.out BK325.out (by decide)) (fun _ hk => hk.2) (.slice Ao41 t321.length co41)) (fun _ hk => hk.2) (.bool t324)) (fun _ h_ => h_.1))) hb); have n3_ := am' (Kd.R_below (by (with_reducible repeat (first | apply ra' | apply rn' | apply rw')); exact (Kd.R_mono (Kd.R_far (p := ⟨gb325, 1, none⟩) (Kd.R_far (p := ⟨gb325, 0, none⟩) (Kd.R_types HO323.out BK325.out (by decide)) (fun _ hk => hk.2) (.slice Ao41 t321.length co41)) (fun _ hk => hk.2) (.bool t324)) (fun _ h_ => h_.1))) hb); have n4_ := am' (blk_below (g := gb302) (o := .cells #[.slice A0_0 l0_0.length c0_0, .int .i64 a0_1] 24 (0, 0)) (by (with_reducible repeat (first | refine kn' ?_ _ | refine kd' ?_ | refine ka' ?_ _)); refine blk_far ?_ NB302_325.out _; (with_reducible repeat (first | refine kn' ?_ _ | refine kd' ?_ | refine ka' ?_ _)); refine blk_far ?_ NB302_325.out _; (with_reducible repeat (first | refine kn' ?_ _ | refine kd' ?_ | refine ka' ?_ _)); exact BK302.out) hb); have n5_ := am' (blk_below (g := gb303) (o := .cells #[.slice A1_0 l1_0.length c1_0, .bool a1_1] 41 (0, 0)) (by (with_reducible repeat (first | refine kn' ?_ _ | refine kd' ?_ | refine ka' ?_ _)); refine blk_far ?_ NB303_325.out _; (with_reducible repeat (first | refine kn' ?_ _ | refine kd' ?_ | refine ka' ?_ _)); refine blk_far ?_ NB303_325.out _; (with_reducible repeat (first | refine kn' ?_ _ | refine kd' ?_ | refine ka' ?_ _)); exact BK303.out) hb); have n6_ := am' (blk_below (g := gb320) (o := .cells #[.slice Ao34 t316.length co34, .int .i64 t319] 28 (0, 0)) (by (with_reducible repeat (first | refine kn' ?_ _ | refine kd' ?_ | refine ka' ?_ _)); refine blk_far ?_ NB320_325.out _; (with_reducible repeat (first | refine kn' ?_ _ | refine kd' ?_ | refine ka' ?_ _)); refine blk_far ?_ NB320_325.out _; (with_reducible repeat (first | refine kn' ?_ _ | refine kd' ?_ | refine ka' ?_ _)); exact BK320.out) hb); have n7_ := am' (blk_below (g := gb325) (o := .cells #[.slice Ao41 t321.length co41, .bool t324] 44 (0, 0)) (by (with_reducible repeat (first | refine kn' ?_ _ | refine kd' ?_ | refine ka' ?_ _)); refine blk_put (cs := #[.slice Ao41 t321.length co41, .bool false]) ?_ 1 _ rfl; (with_reducible repeat (first | refine kn' ?_ _ | refine kd' ?_ | refine ka' ?_ _)); refine blk_put (cs := #[.slice none 0 0, .bool false]) ?_ 0 _ rfl; (with_reducible repeat (first | refine kn' ?_ _ | refine kd' ?_ | refine ka' ?_ _)); exact BK325.out) hb); have n8_ := am' (below_step (by repeat (first | (with_reducible first | exact HB.out | apply ba' | apply bd' | apply be' | refine bs' ?_ GE302.out | refine bs' ?_ GE303.out | refine bs' ?_ GE320.out | refine bs' ?_ GE325.out) | exact HB.out)) hb); clear HO308; clear HO312; clear HO318; clear HO323; clear BK302; clear BK303; clear BK320; clear BK325; clear HB; have HO308 := n0_; have HO312 := n1_; have HO318 := n2_; have HO323 := n3_; have BK302 := n4_; have BK303 := n5_; have BK320 := n6_; have BK325 := n7_; have HB := n8_; clear n0_ n1_ n2_ n3_ n4_ n5_ n6_ n7_ n8_; (try clear hb); (try clear hb2); (try clear hk); (try clear hi)))
     (try simp only [Act.put, sa', sb', sc'])
     go_cut [47] (fun v47 wc => ∃ (kq : Nat) (x47_22 : Bool), v47 = .bool x47_22 ∧ Aside0 (laws_FnExactTimeFrom.j2 kq x47_22 l0_0 a0_1 l1_0 a1_1 t316 t319 t321 t324 = some r) ∧ Aside0 (kq ≤ kj11) ∧ Aside0 (Kd.R (Kd.int .i64) 3 wc w.heap.size (fun k_ => ¬ D338_ k_ ∧ D339_ k_) (.slice Ao34 t316.length co34) t316) ∧ Aside0 (Kd.R Kd.bool 4 wc w.heap.size (fun k_ => ¬ D339_ k_) (.slice Ao41 t321.length co41) t321) ∧ Aside0 (wc.heap[gb302]? = some (.cells #[(.slice A0_0 l0_0.length c0_0), .int .i64 a0_1] 24 (0, 0))) ∧ Aside0 (wc.heap[gb303]? = some (.cells #[(.slice A1_0 l1_0.length c1_0), .bool a1_1] 41 (0, 0))) ∧ Aside0 (wc.heap[gb320]? = some (.cells #[(.slice Ao34 t316.length co34), .int .i64 t319] 28 (0, 0))) ∧ Aside0 (wc.heap[gb325]? = some (.cells #[(.slice Ao41 t321.length co41), .bool t324] 44 (0, 0))) ∧ Aside0 (Below w.heap.size w wc))
     case first =>
      have H := HC23.out
      clear HC23; by_cases c48 : t326 = t314
      ·
       rw [if_pos c48] at H; have c48b0 : (t326 == t314) = true := beq_iff_eq.mpr c48
       have c48b1 : (t326 != t314) = false := bne_eq_false_iff_eq.mpr c48
       clear c48; (first | rw [c48b0] | (simp only [i64_w, i32_w]; rw [c48b0]) | skip)
       have H' := am' H
       clear H; go_wp2
       go_meet
       case rel => exact ⟨_, ((t327 != t315)), (by first | rfl | (simp; done) | (simp [*]; done)), H', ⟨by have := HJ3.out; have := HJ11.out; first | omega | exact Nat.le_refl _⟩, ⟨by (with_reducible repeat (first | apply ra' | apply rn' | apply rw')); exact Kd.R_mono HO318.out (fun _ hk => ⟨hk.1.1.2, hk.2⟩)⟩, ⟨by (with_reducible repeat (first | apply ra' | apply rn' | apply rw')); exact Kd.R_mono HO323.out (fun _ hk => hk.1.2)⟩, ⟨by (with_reducible repeat (first | refine kn' ?_ _ | refine kd' ?_ | refine ka' ?_ _)); exact BK302.out⟩, ⟨by (with_reducible repeat (first | refine kn' ?_ _ | refine kd' ?_ | refine ka' ?_ _)); exact BK303.out⟩, ⟨by (with_reducible repeat (first | refine kn' ?_ _ | refine kd' ?_ | refine ka' ?_ _)); exact BK320.out⟩, ⟨by (with_reducible repeat (first | refine kn' ?_ _ | refine kd' ?_ | refine ka' ?_ _)); exact BK325.out⟩, ⟨by repeat (first | (with_reducible first | exact HB.out | apply ba' | apply bd' | apply be' | refine bs' ?_ GE302.out | refine bs' ?_ GE303.out | refine bs' ?_ GE320.out | refine bs' ?_ GE325.out) | exact HB.out)⟩⟩
      ·
       rw [if_neg c48] at H; have c48b0 : (t326 == t314) = false := beq_eq_false_iff_ne.mpr c48
       have c48b1 : (t326 != t314) = true := bne_iff_ne.mpr c48
       (first | rw [c48b0] | (simp only [i64_w, i32_w]; rw [c48b0]) | skip)
       have H' := am' H
       clear H; go_wp2
       go_meet
       case rel => exact ⟨_, (true), (by first | rfl | (simp; done) | (simp [*]; done)), H', ⟨by have := HJ3.out; have := HJ11.out; first | omega | exact Nat.le_refl _⟩, ⟨by (with_reducible repeat (first | apply ra' | apply rn' | apply rw')); exact Kd.R_mono HO318.out (fun _ hk => ⟨hk.1.1.2, hk.2⟩)⟩, ⟨by (with_reducible repeat (first | apply ra' | apply rn' | apply rw')); exact Kd.R_mono HO323.out (fun _ hk => hk.1.2)⟩, ⟨by (with_reducible repeat (first | refine kn' ?_ _ | refine kd' ?_ | refine ka' ?_ _)); exact BK302.out⟩, ⟨by (with_reducible repeat (first | refine kn' ?_ _ | refine kd' ?_ | refine ka' ?_ _)); exact BK303.out⟩, ⟨by (with_reducible repeat (first | refine kn' ?_ _ | refine kd' ?_ | refine ka' ?_ _)); exact BK320.out⟩, ⟨by (with_reducible repeat (first | refine kn' ?_ _ | refine kd' ?_ | refine ka' ?_ _)); exact BK325.out⟩, ⟨by repeat (first | (with_reducible first | exact HB.out | apply ba' | apply bd' | apply be' | refine bs' ?_ GE302.out | refine bs' ?_ GE303.out | refine bs' ?_ GE320.out | refine bs' ?_ GE325.out) | exact HB.out)⟩⟩
     case rest =>
      clear HC23; try clear c1
      try clear p2
      try clear c3
      try clear c4
      try clear c7
      try clear c10
      try clear c10b0
      try clear c13
      try clear c16
      try clear c16b0
      try clear c18
      try clear c30
      try clear c35
      try clear c36
      try clear c37
      try clear c40
      try clear c41
      try clear c42
      try clear c43
      try clear c44
      try clear c48
      try clear c48b0
      try clear c48b1
      try clear hcz14_0
      try clear hcz14_1
      try clear hcz31_0
      try clear hcz31_1
      try clear hcz37_0
      try clear hcz37_1
      try clear hcz38_0
      try clear hcz38_1
      try clear hcz45_0
      try clear hcz45_1
      try clear hcz46_0
      try clear hcz46_1
      try clear hcz8_0
      try clear hcz8_1
      try clear hfz14_0
      try clear hfz14_1
      try clear hfz31_0
      try clear hfz31_1
      try clear hfz37_0
      try clear hfz37_1
      try clear hfz38_0
      try clear hfz38_1
      try clear hfz45_0
      try clear hfz45_1
      try clear hfz46_0
      try clear hfz46_1
      try clear hfz8_0
      try clear hfz8_1
      try clear p2
      obtain ⟨kq, x47_22, rfl, HA, HJ22, HO_321000, HO_326000, BK302, BK303, BK320, BK325, HB⟩ := hcut
      cases kq with
      | zero => exact absurd HA.out (by simp [laws_FnExactTimeFrom.j2])
      | succ kj22 =>
       have H := HA.out
       clear HA; simp only [laws_FnExactTimeFrom.j2] at H
       have HC49 := am' H
       clear H; go_upto_if 47 with (fail)
       go_cut [] (fun wc => ∃ (kq : Nat), Aside0 (laws_FnExactTimeFrom.j3 kq l0_0 a0_1 l1_0 a1_1 t316 t319 t321 t324 = some r) ∧ Aside0 (kq ≤ kj22) ∧ Aside0 (Kd.R (Kd.int .i64) 3 wc w.heap.size (fun k_ => ¬ D338_ k_ ∧ D339_ k_) (.slice Ao34 t316.length co34) t316) ∧ Aside0 (Kd.R Kd.bool 4 wc w.heap.size (fun k_ => ¬ D339_ k_) (.slice Ao41 t321.length co41) t321) ∧ Aside0 (wc.heap[gb302]? = some (.cells #[(.slice A0_0 l0_0.length c0_0), .int .i64 a0_1] 24 (0, 0))) ∧ Aside0 (wc.heap[gb303]? = some (.cells #[(.slice A1_0 l1_0.length c1_0), .bool a1_1] 41 (0, 0))) ∧ Aside0 (wc.heap[gb320]? = some (.cells #[(.slice Ao34 t316.length co34), .int .i64 t319] 28 (0, 0))) ∧ Aside0 (wc.heap[gb325]? = some (.cells #[(.slice Ao41 t321.length co41), .bool t324] 44 (0, 0))) ∧ Aside0 (Below w.heap.size w wc))
       case first =>
        have H := HC49.out
        clear HC49; by_cases c50 : x47_22 = true
        ·
         subst c50; have H1 : (some false) = some r := by rw [if_pos rfl] at H; exact H
         clear H; have H := H1; clear H1; obtain rfl := Option.some.inj H
         go_wp2
         go_ret
         exact ⟨by first | rfl | (simp [errW_none, errW_some] <;> rfl) | (simp [*, errW_none, errW_some] <;> rfl), by repeat (first | (with_reducible first | exact HB.out | apply ba' | apply bd' | apply be' | refine bs' ?_ GE302.out | refine bs' ?_ GE303.out | refine bs' ?_ GE320.out | refine bs' ?_ GE325.out) | exact HB.out)⟩
        ·
         replace c50 := Bool.eq_false_iff.mpr c50
         subst c50; have H1 : (laws_FnExactTimeFrom.j3 kj22 l0_0 a0_1 l1_0 a1_1 t316 t319 t321 t324) = some r := by rw [if_neg (show ¬ (false = true) by decide)] at H; exact H
         clear H; have H := H1; clear H1; have H' := am' H
         clear H; go_wp2
         go_meet
         case rel => exact ⟨_, H', ⟨by have := HJ3.out; have := HJ11.out; have := HJ22.out; first | omega | exact Nat.le_refl _⟩, ⟨by (with_reducible repeat (first | apply ra' | apply rn' | apply rw')); exact HO_321000.out⟩, ⟨by (with_reducible repeat (first | apply ra' | apply rn' | apply rw')); exact HO_326000.out⟩, ⟨by (with_reducible repeat (first | refine kn' ?_ _ | refine kd' ?_ | refine ka' ?_ _)); exact BK302.out⟩, ⟨by (with_reducible repeat (first | refine kn' ?_ _ | refine kd' ?_ | refine ka' ?_ _)); exact BK303.out⟩, ⟨by (with_reducible repeat (first | refine kn' ?_ _ | refine kd' ?_ | refine ka' ?_ _)); exact BK320.out⟩, ⟨by (with_reducible repeat (first | refine kn' ?_ _ | refine kd' ?_ | refine ka' ?_ _)); exact BK325.out⟩, ⟨by repeat (first | (with_reducible first | exact HB.out | apply ba' | apply bd' | apply be' | refine bs' ?_ GE302.out | refine bs' ?_ GE303.out | refine bs' ?_ GE320.out | refine bs' ?_ GE325.out) | exact HB.out)⟩⟩
       case rest =>
        clear HC49; try clear c1
        try clear p2
        try clear c3
        try clear c4
        try clear c5
        try clear c7
        try clear c10
        try clear c10b0
        try clear c13
        try clear c16
        try clear c16b0
        try clear c18
        try clear c30
        try clear c35
        try clear c36
        try clear c37
        try clear c40
        try clear c41
        try clear c42
        try clear c43
        try clear c44
        try clear c48
        try clear c48b0
        try clear c48b1
        try clear c50
        try clear hcz14_0
        try clear hcz14_1
        try clear hcz31_0
        try clear hcz31_1
        try clear hcz37_0
        try clear hcz37_1
        try clear hcz38_0
        try clear hcz38_1
        try clear hcz45_0
        try clear hcz45_1
        try clear hcz46_0
        try clear hcz46_1
        try clear hcz8_0
        try clear hcz8_1
        try clear hfz14_0
        try clear hfz14_1
        try clear hfz31_0
        try clear hfz31_1
        try clear hfz37_0
        try clear hfz37_1
        try clear hfz38_0
        try clear hfz38_1
        try clear hfz45_0
        try clear hfz45_1
        try clear hfz46_0
        try clear hfz46_1
        try clear hfz8_0
        try clear hfz8_1
        try clear p2
        obtain ⟨kq, HA, HJ48, HO_321000, HO_326000, BK302, BK303, BK320, BK325, HB⟩ := hcut
        cases kq with
        | zero => exact absurd HA.out (by simp [laws_FnExactTimeFrom.j3])
        | succ kj48 =>
         have H := HA.out
         clear HA; simp only [laws_FnExactTimeFrom.j3] at H
         replace H := Option.bind_eq_some_iff.mp H
         obtain ⟨⟨t328, t331⟩, A510, H⟩ := H
         replace H : ((laws_eqParty.f kj48 t316 t319 t328 t331).bind fun t332 => (if t332 = true then (laws_FnExactTimeFrom.j4 kj48 l1_0 a1_1 t321 t324) else (some false))) = some r := H
         have A51 := am' A510
         clear A510; replace H := Option.bind_eq_some_iff.mp H
         obtain ⟨t332, A520, H⟩ := H
         replace H : (if t332 = true then (laws_FnExactTimeFrom.j4 kj48 l1_0 a1_1 t321 t324) else (some false)) = some r := H
         have A52 := am' A520
         clear A520; have HC53 := am' H
         clear H; try go_wp2
         have n0_ := am' (rw' HO_321000.out)
         have n1_ := am' (rw' HO_326000.out)
         have n2_ := am' (kd' BK302.out)
         have n3_ := am' (kd' BK303.out)
         have n4_ := am' (kd' BK320.out)
         have n5_ := am' (kd' BK325.out)
         have n6_ := am' (be' HB.out)
         clear HO_321000; clear HO_326000; clear BK302; clear BK303; clear BK320; clear BK325; clear HB; have HO_321000 := n0_; have HO_326000 := n1_; have BK302 := n2_; have BK303 := n3_; have BK320 := n4_; have BK325 := n5_; have HB := n6_; clear n0_ n1_ n2_ n3_ n4_ n5_ n6_; refine start_ (n := 5) (S := fun w' => w'.cell? ⟨gb320, 0, none⟩ = some (.slice Ao34 t316.length co34) ∧ w'.cell? ⟨gb320, 1, none⟩ = some (.int .i64 t319) ∧ w'.cell? ⟨gb302, 0, none⟩ = some (.slice A0_0 l0_0.length c0_0) ∧ w'.cell? ⟨gb302, 1, none⟩ = some (.int .i64 a0_1)) (ds := []) #[false, false, false, false, false] (by kernel_rfl) rfl rfl ⟨(blk_cell BK320.out 0).trans rfl, (blk_cell BK320.out 1).trans rfl, (blk_cell BK302.out 0).trans rfl, (blk_cell BK302.out 1).trans rfl⟩ (fun hHeld => ?_)
         generalize wc.drew = w54 at HO_321000 HO_326000 BK302 BK303 BK320 BK325 HB hHeld ⊢
         refine take_ (i := 0) (N := some 48) (v := ?_) (a' := ?_) #[true, false, false, false, false] rfl rfl (by kernel_rfl) (fun _ _ _ h => h) (Or.inl ⟨by rfl, ?_⟩) hHeld ?_ ?_
         rotate_left
         ·
          rintro w' ⟨s0, s1, s2, s3⟩
          go_simp; with_reducible rfl
         rotate_left
         ·
          simp only [Act.put, sa', sb', sc', i64_w, i32_w]
          rfl
         refine take_ (i := 1) (N := some 49) (v := ?_) (a' := ?_) #[true, true, false, false, false] rfl rfl (by kernel_rfl) (fun _ _ _ h => h) (Or.inl ⟨by rfl, ?_⟩) hHeld ?_ ?_
         rotate_left
         ·
          rintro w' ⟨s0, s1, s2, s3⟩
          go_simp; with_reducible rfl
         rotate_left
         ·
          simp only [Act.put, sa', sb', sc', i64_w, i32_w]
          rfl
         refine one_ (i := 2) (N := some 50) #[true, true, true, false, false] rfl rfl (by kernel_rfl) (by decide) (fun K hK => ?_)
         refine goes_ Try.func18 (by kernel_rfl) rfl #[.agg #[.slice A0_0 l0_0.length c0_0, .int .i64 a0_1]] (by rfl) rfl rfl (by (try simp only [List.map_toArray, List.map_cons, List.map_nil]); first | done | rfl | (simp only [List.length_drop, List.length_take]; rfl)) ?_
         with_reducible refine (laws_toParty.calls kj48 _ _ l0_0 a0_1 t328 t331 _ ?side1 ?side2 A51.out).mono ?_
         (case side1 => repeat (first | exact (Kd.C_below HR0_0.out HB.out) | (with_reducible refine ca' ?_ _) | (with_reducible refine cn' ?_ _) | (with_reducible refine cd' ?_)))
         (case side2 => exact HC0_0.out)
         rintro e w55 ⟨v329, rfl, ho0, hb⟩
         refine ⟨_, rfl, ?_⟩
         have n0_ := am' (Kd.R_elder' (by (with_reducible repeat (first | apply ra' | apply rn' | apply rw')); exact HO_321000.out) (Kd.R_base ho0) hb)
         have n1_ := am' (Kd.R_below (by (with_reducible repeat (first | apply ra' | apply rn' | apply rw')); exact HO_326000.out) hb)
         have n2_ := am' (Kd.R_lower (Kd.R_new' ho0 (Kd.R_lt (by (with_reducible repeat (first | apply ra' | apply rn' | apply rw')); exact HO_321000.out))) (below_size (by repeat (first | (with_reducible first | exact HB.out | apply ba' | apply bd' | apply be' | refine bs' ?_ GE302.out | refine bs' ?_ GE303.out | refine bs' ?_ GE320.out | refine bs' ?_ GE325.out) | exact HB.out))))
         have n3_ := am' (blk_below (g := gb302) (o := .cells #[.slice A0_0 l0_0.length c0_0, .int .i64 a0_1] 24 (0, 0)) (by (with_reducible repeat (first | refine kn' ?_ _ | refine kd' ?_ | refine ka' ?_ _)); exact BK302.out) hb)
         have n4_ := am' (blk_below (g := gb303) (o := .cells #[.slice A1_0 l1_0.length c1_0, .bool a1_1] 41 (0, 0)) (by (with_reducible repeat (first | refine kn' ?_ _ | refine kd' ?_ | refine ka' ?_ _)); exact BK303.out) hb)
         have n5_ := am' (blk_below (g := gb320) (o := .cells #[.slice Ao34 t316.length co34, .int .i64 t319] 28 (0, 0)) (by (with_reducible repeat (first | refine kn' ?_ _ | refine kd' ?_ | refine ka' ?_ _)); exact BK320.out) hb)
         have n6_ := am' (blk_below (g := gb325) (o := .cells #[.slice Ao41 t321.length co41, .bool t324] 44 (0, 0)) (by (with_reducible repeat (first | refine kn' ?_ _ | refine kd' ?_ | refine ka' ?_ _)); exact BK325.out) hb)
         have n7_ := am' (below_step (by repeat (first | (with_reducible first | exact HB.out | apply ba' | apply bd' | apply be' | refine bs' ?_ GE302.out | refine bs' ?_ GE303.out | refine bs' ?_ GE320.out | refine bs' ?_ GE325.out) | exact HB.out)) hb)
         clear HO_321000; clear HO_326000; clear BK302; clear BK303; clear BK320; clear BK325; clear HB; have HO_321000 := n0_; have HO_326000 := n1_; have HO330 := n2_; have BK302 := n3_; have BK303 := n4_; have BK320 := n5_; have BK325 := n6_; have HB := n7_; clear n0_ n1_ n2_ n3_ n4_ n5_ n6_ n7_; (try clear hb)
         (try clear hb2)
         (try clear hk)
         (try clear hi)
         (try clear ho0)
         obtain ⟨Ao56, co56, eo56⟩ := Kd.R_slice HO330.out
         (first | subst eo56 | (injection eo56 with f1_ f2_ f3_; have f4_ := f1_.symm; have f5_ := f3_.symm; clear f1_ f2_ f3_; subst f4_; subst f5_))
         refine hK.out _ _ ⟨(blk_cell BK320.out 0).trans rfl, (blk_cell BK320.out 1).trans rfl, (blk_cell BK302.out 0).trans rfl, (blk_cell BK302.out 1).trans rfl⟩ (fun hHeld => ?_)
         clear hK K; refine norm_ (a' := ?_) ?_ ?_
         rotate_left
         ·
          show Act.put _ (some 50) _ = _
          simp only [Act.put, sa', sb', sc', i64_w, i32_w]
          rfl
         refine one_ (i := 3) (N := some 51) #[true, true, true, true, false] rfl rfl (by kernel_rfl) (by decide) (fun K hK => ?_)
         refine goes_ Try.func20 (by kernel_rfl) rfl #[.agg #[.slice Ao34 t316.length co34, .int .i64 t319], .agg #[.slice Ao56 t328.length co56, .int .i64 t331]] (by rfl) rfl rfl (by (try simp only [List.map_toArray, List.map_cons, List.map_nil]); first | done | rfl | (simp only [List.length_drop, List.length_take]; rfl)) ?_
         with_reducible refine (laws_eqParty.calls kj48 _ _ t316 t319 _ _ t328 t331 t332 _ ?side1 ?side2 ?side3 ?side4 A52.out).mono ?_
         (case side1 => repeat (first | exact (Kd.R_reads' HO_321000.out).2.2 | (with_reducible refine ca' ?_ _) | (with_reducible refine cn' ?_ _) | (with_reducible refine cd' ?_)))
         (case side2 => exact (Kd.R_reads' HO_321000.out).2.1)
         (case side3 => repeat (first | exact (Kd.R_reads' HO330.out).2.2 | (with_reducible refine ca' ?_ _) | (with_reducible refine cn' ?_ _) | (with_reducible refine cd' ?_)))
         (case side4 => exact (Kd.R_reads' HO330.out).2.1)
         rintro e w57 ⟨rfl, hb⟩
         refine ⟨_, rfl, ?_⟩
         have n0_ := am' (Kd.R_below (by (with_reducible repeat (first | apply ra' | apply rn' | apply rw')); exact HO_321000.out) hb)
         have n1_ := am' (Kd.R_below (by (with_reducible repeat (first | apply ra' | apply rn' | apply rw')); exact HO_326000.out) hb)
         have n2_ := am' (Kd.R_below (by (with_reducible repeat (first | apply ra' | apply rn' | apply rw')); exact HO330.out) hb)
         have n3_ := am' (blk_below (g := gb302) (o := .cells #[.slice A0_0 l0_0.length c0_0, .int .i64 a0_1] 24 (0, 0)) (by (with_reducible repeat (first | refine kn' ?_ _ | refine kd' ?_ | refine ka' ?_ _)); exact BK302.out) hb)
         have n4_ := am' (blk_below (g := gb303) (o := .cells #[.slice A1_0 l1_0.length c1_0, .bool a1_1] 41 (0, 0)) (by (with_reducible repeat (first | refine kn' ?_ _ | refine kd' ?_ | refine ka' ?_ _)); exact BK303.out) hb)
         have n5_ := am' (blk_below (g := gb320) (o := .cells #[.slice Ao34 t316.length co34, .int .i64 t319] 28 (0, 0)) (by (with_reducible repeat (first | refine kn' ?_ _ | refine kd' ?_ | refine ka' ?_ _)); exact BK320.out) hb)
         have n6_ := am' (blk_below (g := gb325) (o := .cells #[.slice Ao41 t321.length co41, .bool t324] 44 (0, 0)) (by (with_reducible repeat (first | refine kn' ?_ _ | refine kd' ?_ | refine ka' ?_ _)); exact BK325.out) hb)
         have n7_ := am' (below_step (by repeat (first | (with_reducible first | exact HB.out | apply ba' | apply bd' | apply be' | refine bs' ?_ GE302.out | refine bs' ?_ GE303.out | refine bs' ?_ GE320.out | refine bs' ?_ GE325.out) | exact HB.out)) hb)
         clear HO_321000; clear HO_326000; clear HO330; clear BK302; clear BK303; clear BK320; clear BK325; clear HB; have HO_321000 := n0_; have HO_326000 := n1_; have HO330 := n2_; have BK302 := n3_; have BK303 := n4_; have BK320 := n5_; have BK325 := n6_; have HB := n7_; clear n0_ n1_ n2_ n3_ n4_ n5_ n6_ n7_; (try clear hb)
         (try clear hb2)
         (try clear hk)
         (try clear hi)
         refine hK.out _ _ ⟨(blk_cell BK320.out 0).trans rfl, (blk_cell BK320.out 1).trans rfl, (blk_cell BK302.out 0).trans rfl, (blk_cell BK302.out 1).trans rfl⟩ (fun hHeld => ?_)
         clear hK K; refine norm_ (a' := ?_) ?_ ?_
         rotate_left
         ·
          show Act.put _ (some 51) _ = _
          simp only [Act.put, sa', sb', sc', i64_w, i32_w]
          rfl
         refine pure_ (i := 4) (N := some 52) (v := ?_) (a' := ?_) #[true, true, true, true, true] rfl rfl (by kernel_rfl) (fun _ _ _ h => h) (Or.inl ⟨by rfl, ?_⟩) ?_ ?_
         rotate_left
         ·
          intro w'; go_simp; with_reducible rfl
         rotate_left
         ·
          simp only [Act.put, sa', sb', sc', i64_w, i32_w]
          rfl
         refine done_ (by kernel_rfl) ?_
         go_upto_if 52 with (fail)
         go_cut [] (fun wc => ∃ (kq : Nat), Aside0 (laws_FnExactTimeFrom.j4 kq l1_0 a1_1 t321 t324 = some r) ∧ Aside0 (kq ≤ kj48) ∧ Aside0 (Kd.R (Kd.int .i64) 3 wc w.heap.size (fun k_ => ¬ D338_ k_ ∧ D339_ k_) (.slice Ao34 t316.length co34) t316) ∧ Aside0 (Kd.R Kd.bool 4 wc w.heap.size (fun k_ => ¬ D339_ k_) (.slice Ao41 t321.length co41) t321) ∧ Aside0 (wc.heap[gb302]? = some (.cells #[(.slice A0_0 l0_0.length c0_0), .int .i64 a0_1] 24 (0, 0))) ∧ Aside0 (wc.heap[gb303]? = some (.cells #[(.slice A1_0 l1_0.length c1_0), .bool a1_1] 41 (0, 0))) ∧ Aside0 (wc.heap[gb320]? = some (.cells #[(.slice Ao34 t316.length co34), .int .i64 t319] 28 (0, 0))) ∧ Aside0 (wc.heap[gb325]? = some (.cells #[(.slice Ao41 t321.length co41), .bool t324] 44 (0, 0))) ∧ Aside0 (Below w.heap.size w wc))
         case first =>
          have H := HC53.out
          clear HC53; by_cases c58 : t332 = true
          ·
           subst c58; have H1 : (laws_FnExactTimeFrom.j4 kj48 l1_0 a1_1 t321 t324) = some r := by rw [if_pos rfl] at H; exact H
           clear H; have H := H1; clear H1; have H' := am' H
           clear H; go_wp2
           go_meet
           case rel => exact ⟨_, H', ⟨by have := HJ3.out; have := HJ11.out; have := HJ22.out; have := HJ48.out; first | omega | exact Nat.le_refl _⟩, ⟨by (with_reducible repeat (first | apply ra' | apply rn' | apply rw')); exact Kd.R_mono HO_321000.out (fun _ hk => ⟨hk.1.1, hk.1.2⟩)⟩, ⟨by (with_reducible repeat (first | apply ra' | apply rn' | apply rw')); exact HO_326000.out⟩, ⟨by (with_reducible repeat (first | refine kn' ?_ _ | refine kd' ?_ | refine ka' ?_ _)); exact BK302.out⟩, ⟨by (with_reducible repeat (first | refine kn' ?_ _ | refine kd' ?_ | refine ka' ?_ _)); exact BK303.out⟩, ⟨by (with_reducible repeat (first | refine kn' ?_ _ | refine kd' ?_ | refine ka' ?_ _)); exact BK320.out⟩, ⟨by (with_reducible repeat (first | refine kn' ?_ _ | refine kd' ?_ | refine ka' ?_ _)); exact BK325.out⟩, ⟨by repeat (first | (with_reducible first | exact HB.out | apply ba' | apply bd' | apply be' | refine bs' ?_ GE302.out | refine bs' ?_ GE303.out | refine bs' ?_ GE320.out | refine bs' ?_ GE325.out) | exact HB.out)⟩⟩
          ·
           replace c58 := Bool.eq_false_iff.mpr c58
           subst c58; have H1 : (some false) = some r := by rw [if_neg (show ¬ (false = true) by decide)] at H; exact H
           clear H; have H := H1; clear H1; obtain rfl := Option.some.inj H
           go_wp2
           go_ret
           exact ⟨by first | rfl | (simp [errW_none, errW_some] <;> rfl) | (simp [*, errW_none, errW_some] <;> rfl), by repeat (first | (with_reducible first | exact HB.out | apply ba' | apply bd' | apply be' | refine bs' ?_ GE302.out | refine bs' ?_ GE303.out | refine bs' ?_ GE320.out | refine bs' ?_ GE325.out) | exact HB.out)⟩
         case rest =>
          clear HC53; try clear c1
          try clear c2
          try clear p2
          try clear c3
          try clear c4
          try clear c5
          try clear c7
          try clear c10
          try clear c10b0
          try clear c13
          try clear c16
          try clear c16b0
          try clear c18
          try clear c20
          try clear c30
          try clear c35
          try clear c36
          try clear c37
          try clear c40
          try clear c41
          try clear c42
          try clear c43
          try clear c44
          try clear c48
          try clear c48b0
          try clear c48b1
          try clear c50
          try clear c58
          try clear hcz14_0
          try clear hcz14_1
          try clear hcz31_0
          try clear hcz31_1
          try clear hcz37_0
          try clear hcz37_1
          try clear hcz38_0
          try clear hcz38_1
          try clear hcz45_0
          try clear hcz45_1
          try clear hcz46_0
          try clear hcz46_1
          try clear hcz8_0
          try clear hcz8_1
          try clear hfz14_0
          try clear hfz14_1
          try clear hfz31_0
          try clear hfz31_1
          try clear hfz37_0
          try clear hfz37_1
          try clear hfz38_0
          try clear hfz38_1
          try clear hfz45_0
          try clear hfz45_1
          try clear hfz46_0
          try clear hfz46_1
          try clear hfz8_0
          try clear hfz8_1
          try clear p2
          obtain ⟨kq, HA, HJ52, HO_321000, HO_326000, BK302, BK303, BK320, BK325, HB⟩ := hcut
          cases kq with
          | zero => exact absurd HA.out (by simp [laws_FnExactTimeFrom.j4])
          | succ kj52 =>
           have H := HA.out
           clear HA; simp only [laws_FnExactTimeFrom.j4] at H
           replace H := Option.bind_eq_some_iff.mp H
           obtain ⟨⟨t333, t336⟩, A590, H⟩ := H
           replace H : ((laws_eqState.f kj52 t321 t324 t333 t336).bind fun t337 => (if t337 = true then (some true) else (some false))) = some r := H
           have A59 := am' A590
           clear A590; replace H := Option.bind_eq_some_iff.mp H
           obtain ⟨t337, A600, H⟩ := H
           replace H : (if t337 = true then (some true) else (some false)) = some r := H
           have A60 := am' A600
           clear A600; by_cases c61 : t337 = true
           ·
            subst c61; have H1 : (some true) = some r := by rw [if_pos rfl] at H; exact H
            clear H; have H := H1; clear H1; obtain rfl := Option.some.inj H
            try go_wp2
            have n0_ := am' (rw' HO_321000.out)
            have n1_ := am' (rw' HO_326000.out)
            have n2_ := am' (kd' BK302.out)
            have n3_ := am' (kd' BK303.out)
            have n4_ := am' (kd' BK320.out)
            have n5_ := am' (kd' BK325.out)
            have n6_ := am' (be' HB.out)
            clear HO_321000; clear HO_326000; clear BK302; clear BK303; clear BK320; clear BK325; clear HB; have HO_321000 := n0_; have HO_326000 := n1_; have BK302 := n2_; have BK303 := n3_; have BK320 := n4_; have BK325 := n5_; have HB := n6_; clear n0_ n1_ n2_ n3_ n4_ n5_ n6_; refine start_ (n := 5) (S := fun w' => w'.cell? ⟨gb325, 0, none⟩ = some (.slice Ao41 t321.length co41) ∧ w'.cell? ⟨gb325, 1, none⟩ = some (.bool t324) ∧ w'.cell? ⟨gb303, 0, none⟩ = some (.slice A1_0 l1_0.length c1_0) ∧ w'.cell? ⟨gb303, 1, none⟩ = some (.bool a1_1)) (ds := []) #[false, false, false, false, false] (by kernel_rfl) rfl rfl ⟨(blk_cell BK325.out 0).trans rfl, (blk_cell BK325.out 1).trans rfl, (blk_cell BK303.out 0).trans rfl, (blk_cell BK303.out 1).trans rfl⟩ (fun hHeld => ?_)
            generalize wc.drew = w62 at HO_321000 HO_326000 BK302 BK303 BK320 BK325 HB hHeld ⊢
            refine take_ (i := 0) (N := some 53) (v := ?_) (a' := ?_) #[true, false, false, false, false] rfl rfl (by kernel_rfl) (fun _ _ _ h => h) (Or.inl ⟨by rfl, ?_⟩) hHeld ?_ ?_
            rotate_left
            ·
             rintro w' ⟨s0, s1, s2, s3⟩
             go_simp; with_reducible rfl
            rotate_left
            ·
             simp only [Act.put, sa', sb', sc', i64_w, i32_w]
             rfl
            refine take_ (i := 1) (N := some 54) (v := ?_) (a' := ?_) #[true, true, false, false, false] rfl rfl (by kernel_rfl) (fun _ _ _ h => h) (Or.inl ⟨by rfl, ?_⟩) hHeld ?_ ?_
            rotate_left
            ·
             rintro w' ⟨s0, s1, s2, s3⟩
             go_simp; with_reducible rfl
            rotate_left
            ·
             simp only [Act.put, sa', sb', sc', i64_w, i32_w]
             rfl
            refine one_ (i := 2) (N := some 55) #[true, true, true, false, false] rfl rfl (by kernel_rfl) (by decide) (fun K hK => ?_)
            refine goes_ Try.func37 (by kernel_rfl) rfl #[.agg #[.slice A1_0 l1_0.length c1_0, .bool a1_1]] (by rfl) rfl rfl (by (try simp only [List.map_toArray, List.map_cons, List.map_nil]); first | done | rfl | (simp only [List.length_drop, List.length_take]; rfl)) ?_
            with_reducible refine (laws_toState.calls kj52 _ _ l1_0 a1_1 t333 t336 _ ?side1 ?side2 A59.out).mono ?_
            (case side1 => repeat (first | exact (Kd.C_below HR1_0.out HB.out) | (with_reducible refine ca' ?_ _) | (with_reducible refine cn' ?_ _) | (with_reducible refine cd' ?_)))
            (case side2 => exact HC1_0.out)
            rintro e w63 ⟨v334, rfl, ho0, hb⟩
            refine ⟨_, rfl, ?_⟩
            have n0_ := am' (Kd.R_below (by (with_reducible repeat (first | apply ra' | apply rn' | apply rw')); exact HO_321000.out) hb)
            have n1_ := am' (Kd.R_elder' (by (with_reducible repeat (first | apply ra' | apply rn' | apply rw')); exact HO_326000.out) (Kd.R_base ho0) hb)
            have n2_ := am' (Kd.R_lower (Kd.R_new' ho0 (Kd.R_lt (by (with_reducible repeat (first | apply ra' | apply rn' | apply rw')); exact HO_326000.out))) (below_size (by repeat (first | (with_reducible first | exact HB.out | apply ba' | apply bd' | apply be' | refine bs' ?_ GE302.out | refine bs' ?_ GE303.out | refine bs' ?_ GE320.out | refine bs' ?_ GE325.out) | exact HB.out))))
            have n3_ := am' (blk_below (g := gb302) (o := .cells #[.slice A0_0 l0_0.length c0_0, .int .i64 a0_1] 24 (0, 0)) (by (with_reducible repeat (first | refine kn' ?_ _ | refine kd' ?_ | refine ka' ?_ _)); exact BK302.out) hb)
            have n4_ := am' (blk_below (g := gb303) (o := .cells #[.slice A1_0 l1_0.length c1_0, .bool a1_1] 41 (0, 0)) (by (with_reducible repeat (first | refine kn' ?_ _ | refine kd' ?_ | refine ka' ?_ _)); exact BK303.out) hb)
            have n5_ := am' (blk_below (g := gb320) (o := .cells #[.slice Ao34 t316.length co34, .int .i64 t319] 28 (0, 0)) (by (with_reducible repeat (first | refine kn' ?_ _ | refine kd' ?_ | refine ka' ?_ _)); exact BK320.out) hb)
            have n6_ := am' (blk_below (g := gb325) (o := .cells #[.slice Ao41 t321.length co41, .bool t324] 44 (0, 0)) (by (with_reducible repeat (first | refine kn' ?_ _ | refine kd' ?_ | refine ka' ?_ _)); exact BK325.out) hb)
            have n7_ := am' (below_step (by repeat (first | (with_reducible first | exact HB.out | apply ba' | apply bd' | apply be' | refine bs' ?_ GE302.out | refine bs' ?_ GE303.out | refine bs' ?_ GE320.out | refine bs' ?_ GE325.out) | exact HB.out)) hb)
            clear HO_321000; clear HO_326000; clear BK302; clear BK303; clear BK320; clear BK325; clear HB; have HO_321000 := n0_; have HO_326000 := n1_; have HO335 := n2_; have BK302 := n3_; have BK303 := n4_; have BK320 := n5_; have BK325 := n6_; have HB := n7_; clear n0_ n1_ n2_ n3_ n4_ n5_ n6_ n7_; (try clear hb)
            (try clear hb2)
            (try clear hk)
            (try clear hi)
            (try clear ho0)
            obtain ⟨Ao64, co64, eo64⟩ := Kd.R_slice HO335.out
            (first | subst eo64 | (injection eo64 with f1_ f2_ f3_; have f4_ := f1_.symm; have f5_ := f3_.symm; clear f1_ f2_ f3_; subst f4_; subst f5_))
            refine hK.out _ _ ⟨(blk_cell BK325.out 0).trans rfl, (blk_cell BK325.out 1).trans rfl, (blk_cell BK303.out 0).trans rfl, (blk_cell BK303.out 1).trans rfl⟩ (fun hHeld => ?_)
            clear hK K; refine norm_ (a' := ?_) ?_ ?_
            rotate_left
            ·
             show Act.put _ (some 55) _ = _
             simp only [Act.put, sa', sb', sc', i64_w, i32_w]
             rfl
            refine one_ (i := 3) (N := some 56) #[true, true, true, true, false] rfl rfl (by kernel_rfl) (by decide) (fun K hK => ?_)
            refine goes_ Try.func39 (by kernel_rfl) rfl #[.agg #[.slice Ao41 t321.length co41, .bool t324], .agg #[.slice Ao64 t333.length co64, .bool t336]] (by rfl) rfl rfl (by (try simp only [List.map_toArray, List.map_cons, List.map_nil]); first | done | rfl | (simp only [List.length_drop, List.length_take]; rfl)) ?_
            with_reducible refine (laws_eqState.calls kj52 _ _ t321 t324 _ _ t333 t336 true _ ?side1 ?side2 ?side3 ?side4 A60.out).mono ?_
            (case side1 => repeat (first | exact (Kd.R_reads' HO_326000.out).2.2 | (with_reducible refine ca' ?_ _) | (with_reducible refine cn' ?_ _) | (with_reducible refine cd' ?_)))
            (case side2 => exact (Kd.R_reads' HO_326000.out).2.1)
            (case side3 => repeat (first | exact (Kd.R_reads' HO335.out).2.2 | (with_reducible refine ca' ?_ _) | (with_reducible refine cn' ?_ _) | (with_reducible refine cd' ?_)))
            (case side4 => exact (Kd.R_reads' HO335.out).2.1)
            rintro e w65 ⟨rfl, hb⟩
            refine ⟨_, rfl, ?_⟩
            have n0_ := am' (Kd.R_below (by (with_reducible repeat (first | apply ra' | apply rn' | apply rw')); exact HO_321000.out) hb)
            have n1_ := am' (Kd.R_below (by (with_reducible repeat (first | apply ra' | apply rn' | apply rw')); exact HO_326000.out) hb)
            have n2_ := am' (Kd.R_below (by (with_reducible repeat (first | apply ra' | apply rn' | apply rw')); exact HO335.out) hb)
            have n3_ := am' (blk_below (g := gb302) (o := .cells #[.slice A0_0 l0_0.length c0_0, .int .i64 a0_1] 24 (0, 0)) (by (with_reducible repeat (first | refine kn' ?_ _ | refine kd' ?_ | refine ka' ?_ _)); exact BK302.out) hb)
            have n4_ := am' (blk_below (g := gb303) (o := .cells #[.slice A1_0 l1_0.length c1_0, .bool a1_1] 41 (0, 0)) (by (with_reducible repeat (first | refine kn' ?_ _ | refine kd' ?_ | refine ka' ?_ _)); exact BK303.out) hb)
            have n5_ := am' (blk_below (g := gb320) (o := .cells #[.slice Ao34 t316.length co34, .int .i64 t319] 28 (0, 0)) (by (with_reducible repeat (first | refine kn' ?_ _ | refine kd' ?_ | refine ka' ?_ _)); exact BK320.out) hb)
            have n6_ := am' (blk_below (g := gb325) (o := .cells #[.slice Ao41 t321.length co41, .bool t324] 44 (0, 0)) (by (with_reducible repeat (first | refine kn' ?_ _ | refine kd' ?_ | refine ka' ?_ _)); exact BK325.out) hb)
            have n7_ := am' (below_step (by repeat (first | (with_reducible first | exact HB.out | apply ba' | apply bd' | apply be' | refine bs' ?_ GE302.out | refine bs' ?_ GE303.out | refine bs' ?_ GE320.out | refine bs' ?_ GE325.out) | exact HB.out)) hb)
            clear HO_321000; clear HO_326000; clear HO335; clear BK302; clear BK303; clear BK320; clear BK325; clear HB; have HO_321000 := n0_; have HO_326000 := n1_; have HO335 := n2_; have BK302 := n3_; have BK303 := n4_; have BK320 := n5_; have BK325 := n6_; have HB := n7_; clear n0_ n1_ n2_ n3_ n4_ n5_ n6_ n7_; (try clear hb)
            (try clear hb2)
            (try clear hk)
            (try clear hi)
            refine hK.out _ _ ⟨(blk_cell BK325.out 0).trans rfl, (blk_cell BK325.out 1).trans rfl, (blk_cell BK303.out 0).trans rfl, (blk_cell BK303.out 1).trans rfl⟩ (fun hHeld => ?_)
            clear hK K; refine norm_ (a' := ?_) ?_ ?_
            rotate_left
            ·
             show Act.put _ (some 56) _ = _
             simp only [Act.put, sa', sb', sc', i64_w, i32_w]
             rfl
            refine pure_ (i := 4) (N := some 57) (v := ?_) (a' := ?_) #[true, true, true, true, true] rfl rfl (by kernel_rfl) (fun _ _ _ h => h) (Or.inl ⟨by rfl, ?_⟩) ?_ ?_
            rotate_left
            ·
             intro w'; go_simp; with_reducible rfl
            rotate_left
            ·
             simp only [Act.put, sa', sb', sc', i64_w, i32_w]
             rfl
            refine done_ (by kernel_rfl) ?_
            try go_wp2
            go_ret
            exact ⟨by first | rfl | (simp [errW_none, errW_some] <;> rfl) | (simp [*, errW_none, errW_some] <;> rfl), by repeat (first | (with_reducible first | exact HB.out | apply ba' | apply bd' | apply be' | refine bs' ?_ GE302.out | refine bs' ?_ GE303.out | refine bs' ?_ GE320.out | refine bs' ?_ GE325.out) | exact HB.out)⟩
           ·
            replace c61 := Bool.eq_false_iff.mpr c61
            subst c61; have H1 : (some false) = some r := by rw [if_neg (show ¬ (false = true) by decide)] at H; exact H
            clear H; have H := H1; clear H1; obtain rfl := Option.some.inj H
            try go_wp2
            have n0_ := am' (rw' HO_321000.out)
            have n1_ := am' (rw' HO_326000.out)
            have n2_ := am' (kd' BK302.out)
            have n3_ := am' (kd' BK303.out)
            have n4_ := am' (kd' BK320.out)
            have n5_ := am' (kd' BK325.out)
            have n6_ := am' (be' HB.out)
            clear HO_321000; clear HO_326000; clear BK302; clear BK303; clear BK320; clear BK325; clear HB; have HO_321000 := n0_; have HO_326000 := n1_; have BK302 := n2_; have BK303 := n3_; have BK320 := n4_; have BK325 := n5_; have HB := n6_; clear n0_ n1_ n2_ n3_ n4_ n5_ n6_; refine start_ (n := 5) (S := fun w' => w'.cell? ⟨gb325, 0, none⟩ = some (.slice Ao41 t321.length co41) ∧ w'.cell? ⟨gb325, 1, none⟩ = some (.bool t324) ∧ w'.cell? ⟨gb303, 0, none⟩ = some (.slice A1_0 l1_0.length c1_0) ∧ w'.cell? ⟨gb303, 1, none⟩ = some (.bool a1_1)) (ds := []) #[false, false, false, false, false] (by kernel_rfl) rfl rfl ⟨(blk_cell BK325.out 0).trans rfl, (blk_cell BK325.out 1).trans rfl, (blk_cell BK303.out 0).trans rfl, (blk_cell BK303.out 1).trans rfl⟩ (fun hHeld => ?_)
            generalize wc.drew = w66 at HO_321000 HO_326000 BK302 BK303 BK320 BK325 HB hHeld ⊢
            refine take_ (i := 0) (N := some 53) (v := ?_) (a' := ?_) #[true, false, false, false, false] rfl rfl (by kernel_rfl) (fun _ _ _ h => h) (Or.inl ⟨by rfl, ?_⟩) hHeld ?_ ?_
            rotate_left
            ·
             rintro w' ⟨s0, s1, s2, s3⟩
             go_simp; with_reducible rfl
            rotate_left
            ·
             simp only [Act.put, sa', sb', sc', i64_w, i32_w]
             rfl
            refine take_ (i := 1) (N := some 54) (v := ?_) (a' := ?_) #[true, true, false, false, false] rfl rfl (by kernel_rfl) (fun _ _ _ h => h) (Or.inl ⟨by rfl, ?_⟩) hHeld ?_ ?_
            rotate_left
            ·
             rintro w' ⟨s0, s1, s2, s3⟩
             go_simp; with_reducible rfl
            rotate_left
            ·
             simp only [Act.put, sa', sb', sc', i64_w, i32_w]
             rfl
            refine one_ (i := 2) (N := some 55) #[true, true, true, false, false] rfl rfl (by kernel_rfl) (by decide) (fun K hK => ?_)
            refine goes_ Try.func37 (by kernel_rfl) rfl #[.agg #[.slice A1_0 l1_0.length c1_0, .bool a1_1]] (by rfl) rfl rfl (by (try simp only [List.map_toArray, List.map_cons, List.map_nil]); first | done | rfl | (simp only [List.length_drop, List.length_take]; rfl)) ?_
            with_reducible refine (laws_toState.calls kj52 _ _ l1_0 a1_1 t333 t336 _ ?side1 ?side2 A59.out).mono ?_
            (case side1 => repeat (first | exact (Kd.C_below HR1_0.out HB.out) | (with_reducible refine ca' ?_ _) | (with_reducible refine cn' ?_ _) | (with_reducible refine cd' ?_)))
            (case side2 => exact HC1_0.out)
            rintro e w67 ⟨v334, rfl, ho0, hb⟩
            refine ⟨_, rfl, ?_⟩
            have n0_ := am' (Kd.R_below (by (with_reducible repeat (first | apply ra' | apply rn' | apply rw')); exact HO_321000.out) hb)
            have n1_ := am' (Kd.R_elder' (by (with_reducible repeat (first | apply ra' | apply rn' | apply rw')); exact HO_326000.out) (Kd.R_base ho0) hb)
            have n2_ := am' (Kd.R_lower (Kd.R_new' ho0 (Kd.R_lt (by (with_reducible repeat (first | apply ra' | apply rn' | apply rw')); exact HO_326000.out))) (below_size (by repeat (first | (with_reducible first | exact HB.out | apply ba' | apply bd' | apply be' | refine bs' ?_ GE302.out | refine bs' ?_ GE303.out | refine bs' ?_ GE320.out | refine bs' ?_ GE325.out) | exact HB.out))))
            have n3_ := am' (blk_below (g := gb302) (o := .cells #[.slice A0_0 l0_0.length c0_0, .int .i64 a0_1] 24 (0, 0)) (by (with_reducible repeat (first | refine kn' ?_ _ | refine kd' ?_ | refine ka' ?_ _)); exact BK302.out) hb)
            have n4_ := am' (blk_below (g := gb303) (o := .cells #[.slice A1_0 l1_0.length c1_0, .bool a1_1] 41 (0, 0)) (by (with_reducible repeat (first | refine kn' ?_ _ | refine kd' ?_ | refine ka' ?_ _)); exact BK303.out) hb)
            have n5_ := am' (blk_below (g := gb320) (o := .cells #[.slice Ao34 t316.length co34, .int .i64 t319] 28 (0, 0)) (by (with_reducible repeat (first | refine kn' ?_ _ | refine kd' ?_ | refine ka' ?_ _)); exact BK320.out) hb)
            have n6_ := am' (blk_below (g := gb325) (o := .cells #[.slice Ao41 t321.length co41, .bool t324] 44 (0, 0)) (by (with_reducible repeat (first | refine kn' ?_ _ | refine kd' ?_ | refine ka' ?_ _)); exact BK325.out) hb)
            have n7_ := am' (below_step (by repeat (first | (with_reducible first | exact HB.out | apply ba' | apply bd' | apply be' | refine bs' ?_ GE302.out | refine bs' ?_ GE303.out | refine bs' ?_ GE320.out | refine bs' ?_ GE325.out) | exact HB.out)) hb)
            clear HO_321000; clear HO_326000; clear BK302; clear BK303; clear BK320; clear BK325; clear HB; have HO_321000 := n0_; have HO_326000 := n1_; have HO335 := n2_; have BK302 := n3_; have BK303 := n4_; have BK320 := n5_; have BK325 := n6_; have HB := n7_; clear n0_ n1_ n2_ n3_ n4_ n5_ n6_ n7_; (try clear hb)
            (try clear hb2)
            (try clear hk)
            (try clear hi)
            (try clear ho0)
            obtain ⟨Ao68, co68, eo68⟩ := Kd.R_slice HO335.out
            (first | subst eo68 | (injection eo68 with f1_ f2_ f3_; have f4_ := f1_.symm; have f5_ := f3_.symm; clear f1_ f2_ f3_; subst f4_; subst f5_))
            refine hK.out _ _ ⟨(blk_cell BK325.out 0).trans rfl, (blk_cell BK325.out 1).trans rfl, (blk_cell BK303.out 0).trans rfl, (blk_cell BK303.out 1).trans rfl⟩ (fun hHeld => ?_)
            clear hK K; refine norm_ (a' := ?_) ?_ ?_
            rotate_left
            ·
             show Act.put _ (some 55) _ = _
             simp only [Act.put, sa', sb', sc', i64_w, i32_w]
             rfl
            refine one_ (i := 3) (N := some 56) #[true, true, true, true, false] rfl rfl (by kernel_rfl) (by decide) (fun K hK => ?_)
            refine goes_ Try.func39 (by kernel_rfl) rfl #[.agg #[.slice Ao41 t321.length co41, .bool t324], .agg #[.slice Ao68 t333.length co68, .bool t336]] (by rfl) rfl rfl (by (try simp only [List.map_toArray, List.map_cons, List.map_nil]); first | done | rfl | (simp only [List.length_drop, List.length_take]; rfl)) ?_
            with_reducible refine (laws_eqState.calls kj52 _ _ t321 t324 _ _ t333 t336 false _ ?side1 ?side2 ?side3 ?side4 A60.out).mono ?_
            (case side1 => repeat (first | exact (Kd.R_reads' HO_326000.out).2.2 | (with_reducible refine ca' ?_ _) | (with_reducible refine cn' ?_ _) | (with_reducible refine cd' ?_)))
            (case side2 => exact (Kd.R_reads' HO_326000.out).2.1)
            (case side3 => repeat (first | exact (Kd.R_reads' HO335.out).2.2 | (with_reducible refine ca' ?_ _) | (with_reducible refine cn' ?_ _) | (with_reducible refine cd' ?_)))
            (case side4 => exact (Kd.R_reads' HO335.out).2.1)
            rintro e w69 ⟨rfl, hb⟩
            refine ⟨_, rfl, ?_⟩
            have n0_ := am' (Kd.R_below (by (with_reducible repeat (first | apply ra' | apply rn' | apply rw')); exact HO_321000.out) hb)
            have n1_ := am' (Kd.R_below (by (with_reducible repeat (first | apply ra' | apply rn' | apply rw')); exact HO_326000.out) hb)
            have n2_ := am' (Kd.R_below (by (with_reducible repeat (first | apply ra' | apply rn' | apply rw')); exact HO335.out) hb)
            have n3_ := am' (blk_below (g := gb302) (o := .cells #[.slice A0_0 l0_0.length c0_0, .int .i64 a0_1] 24 (0, 0)) (by (with_reducible repeat (first | refine kn' ?_ _ | refine kd' ?_ | refine ka' ?_ _)); exact BK302.out) hb)
            have n4_ := am' (blk_below (g := gb303) (o := .cells #[.slice A1_0 l1_0.length c1_0, .bool a1_1] 41 (0, 0)) (by (with_reducible repeat (first | refine kn' ?_ _ | refine kd' ?_ | refine ka' ?_ _)); exact BK303.out) hb)
            have n5_ := am' (blk_below (g := gb320) (o := .cells #[.slice Ao34 t316.length co34, .int .i64 t319] 28 (0, 0)) (by (with_reducible repeat (first | refine kn' ?_ _ | refine kd' ?_ | refine ka' ?_ _)); exact BK320.out) hb)
            have n6_ := am' (blk_below (g := gb325) (o := .cells #[.slice Ao41 t321.length co41, .bool t324] 44 (0, 0)) (by (with_reducible repeat (first | refine kn' ?_ _ | refine kd' ?_ | refine ka' ?_ _)); exact BK325.out) hb)
            have n7_ := am' (below_step (by repeat (first | (with_reducible first | exact HB.out | apply ba' | apply bd' | apply be' | refine bs' ?_ GE302.out | refine bs' ?_ GE303.out | refine bs' ?_ GE320.out | refine bs' ?_ GE325.out) | exact HB.out)) hb)
            clear HO_321000; clear HO_326000; clear HO335; clear BK302; clear BK303; clear BK320; clear BK325; clear HB; have HO_321000 := n0_; have HO_326000 := n1_; have HO335 := n2_; have BK302 := n3_; have BK303 := n4_; have BK320 := n5_; have BK325 := n6_; have HB := n7_; clear n0_ n1_ n2_ n3_ n4_ n5_ n6_ n7_; (try clear hb)
            (try clear hb2)
            (try clear hk)
            (try clear hi)
            refine hK.out _ _ ⟨(blk_cell BK325.out 0).trans rfl, (blk_cell BK325.out 1).trans rfl, (blk_cell BK303.out 0).trans rfl, (blk_cell BK303.out 1).trans rfl⟩ (fun hHeld => ?_)
            clear hK K; refine norm_ (a' := ?_) ?_ ?_
            rotate_left
            ·
             show Act.put _ (some 56) _ = _
             simp only [Act.put, sa', sb', sc', i64_w, i32_w]
             rfl
            refine pure_ (i := 4) (N := some 57) (v := ?_) (a' := ?_) #[true, true, true, true, true] rfl rfl (by kernel_rfl) (fun _ _ _ h => h) (Or.inl ⟨by rfl, ?_⟩) ?_ ?_
            rotate_left
            ·
             intro w'; go_simp; with_reducible rfl
            rotate_left
            ·
             simp only [Act.put, sa', sb', sc', i64_w, i32_w]
             rfl
            refine done_ (by kernel_rfl) ?_
            try go_wp2
            go_ret
            exact ⟨by first | rfl | (simp [errW_none, errW_some] <;> rfl) | (simp [*, errW_none, errW_some] <;> rfl), by repeat (first | (with_reducible first | exact HB.out | apply ba' | apply bd' | apply be' | refine bs' ?_ GE302.out | refine bs' ?_ GE303.out | refine bs' ?_ GE320.out | refine bs' ?_ GE325.out) | exact HB.out)⟩
end Go.Proofs.Ytamljjfhkolflaa.C4
