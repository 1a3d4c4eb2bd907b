import Derived.Test.YtamljjfhkolflaaC6zx0
import Derived.Test.YtamljjfhkolflaaC6zx1
import Derived.Test.YtamljjfhkolflaaC6zx6
import Derived.Test.YtamljjfhkolflaaC6zx12
import Derived.Test.YtamljjfhkolflaaC6zAl
namespace Go.Proofs.Ytamljjfhkolflaa.C6
open Go.RowKit Go.Proofs.YtamljjfhkolflaaW.PrintWords Go.Proofs.YtamljjfhkolflaaW.PrintLast Go.Proofs.YtamljjfhkolflaaW.PrintMore Go.Proofs.Ytamljjfhkolflaa.H
attribute [local go_sem] max2_int min2_int max_two min_two max_three min_three max_four min_four
set_option linter.unusedVariables false
set_option linter.unusedSimpArgs false
mutual
def laws_FnExactTimeTo.j0 : Nat → Int → List Int → Int → List Bool → Bool → Option (Bool)
 | 0, _, _, _, _, _ => none
 | k + 1, x5, x301000, x301001, x302000, x302001 => (laws_szState.f x302000 x302001 x5).bind fun t303 => (if t303 < 0 then (some true) else (laws_FnExactTimeTo.j1 k x301000 x301001 x302000 x302001))
def laws_FnExactTimeTo.j1 : Nat → List Int → Int → List Bool → Bool → Option (Bool)
 | 0, _, _, _, _ => none
 | k + 1, x301000, x301001, x302000, x302001 => (laws_toParty.f k x301000 x301001).bind fun bt304 => ((laws_toState.f k x302000 x302001).bind fun bt308 => ((spec_TimeTo.f k bt304.1 bt304.2 bt308.1 bt308.2).bind fun bt312 => ((laws_toParty.f k x301000 x301001).bind fun bt314 => ((laws_toState.f k x302000 x302001).bind fun bt319 => ((impl_TimeTo.f k bt314.1 bt314.2 bt319.1 bt319.2).bind fun bt324 => (if bt324.1 = bt312.1 then (laws_FnExactTimeTo.j2 k (bt324.2 != bt312.2) x301000 x301001 x302000 x302001 bt314.1 bt314.2 bt319.1 bt319.2) else (laws_FnExactTimeTo.j2 k true x301000 x301001 x302000 x302001 bt314.1 bt314.2 bt319.1 bt319.2)))))))
def laws_FnExactTimeTo.j2 : Nat → Bool → List Int → Int → List Bool → Bool → List Int → Int → List Bool → Bool → Option (Bool)
 | 0, _, _, _, _, _, _, _, _, _ => none
 | k + 1, x47, x301000, x301001, x302000, x302001, x319000, x319001, x324000, x324001 => if x47 = true then (some false) else (laws_FnExactTimeTo.j3 k x301000 x301001 x302000 x302001 x319000 x319001 x324000 x324001)
def laws_FnExactTimeTo.j3 : Nat → List Int → Int → List Bool → Bool → List Int → Int → List Bool → Bool → Option (Bool)
 | 0, _, _, _, _, _, _, _, _ => none
 | k + 1, x301000, x301001, x302000, x302001, x319000, x319001, x324000, x324001 => (laws_toParty.f k x301000 x301001).bind fun bt326 => ((laws_eqParty.f k x319000 x319001 bt326.1 bt326.2).bind fun t330 => (if t330 = true then (laws_FnExactTimeTo.j4 k x302000 x302001 x324000 x324001) else (some false)))
def laws_FnExactTimeTo.j4 : Nat → List Bool → Bool → List Bool → Bool → Option (Bool)
 | 0, _, _, _, _ => none
 | k + 1, x302000, x302001, x324000, x324001 => (laws_toState.f k x302000 x302001).bind fun bt331 => ((laws_eqState.f k x324000 x324001 bt331.1 bt331.2).bind fun t335 => (if t335 = true then (some true) else (some false)))
end
def laws_FnExactTimeTo.f (k : Nat) (l0_0 : List Int) (a0_1 : Int) (l1_0 : List Bool) (a1_1 : Bool) : Option (Bool) := (laws_szParty.f l0_0 a0_1 1048576).bind fun t302 => (if t302 < 0 then (some true) else (laws_FnExactTimeTo.j0 k t302 l0_0 a0_1 l1_0 a1_1))
def laws_FnExactTimeTo.T8 : Bool × List (List Nat × List Nat) := (true, [([], []), ([0], [0]), ([], []), ([2, 1], [2]), ([1, 3, 3], [1, 3]), ([4], [4]), ([5], [5]), ([5], [5]), ([6, 4, 0, 1, 2, 3, 4, 5, 6], [6]), ([7, 8, 0, 1, 2, 3, 4, 5, 6, 7, 8], [7])])
def laws_FnExactTimeTo.B8 : List Nat := [0, 1, 0, 7, 15, 31, 63, 63, 127, 511]
theorem laws_FnExactTimeTo.tab8 : rtab .any (opsOf Try.f9 8) = laws_FnExactTimeTo.T8 := by kernel_rfl
theorem laws_FnExactTimeTo.bits8 : waitsOk laws_FnExactTimeTo.T8.2 laws_FnExactTimeTo.B8 = true := by kernel_rfl
set_option maxHeartbeats 8000000 in
set_option maxRecDepth 100000 in
theorem laws_FnExactTimeTo.calls (k : Nat) (A0_0 : Option Addr) (c0_0 : Nat) (l0_0 : List Int) (a0_1 : Int) (A1_0 : Option Addr) (c1_0 : Nat) (l1_0 : List Bool) (a1_1 : Bool) (r : Bool) (w : World) (hr0_0 : Kd.C (Kd.int .i64) w A0_0 l0_0.length l0_0) (hc0_0 : l0_0.length ≤ c0_0) (hr1_0 : Kd.C Kd.bool w A1_0 l1_0.length l1_0) (hc1_0 : l1_0.length ≤ c1_0) (h : laws_FnExactTimeTo.f k l0_0 a0_1 l1_0 a1_1 = some r) :
  Calls Try.prog 9 #[.agg #[.slice A0_0 l0_0.length c0_0, .int .i64 a0_1], .agg #[.slice A1_0 l1_0.length c1_0, .bool a1_1]] w fun e w' => e = .returned (.bool r) ∧ Below w.heap.size w w' := by
 have hu24 := Try.underlying24
 have hu41 := Try.underlying41
 have hu28 := Try.underlying28
 have hu44 := Try.underlying44
 have HR0_0 := am' hr0_0
 have HC0_0 := am' hc0_0
 clear hr0_0 hc0_0; have HR1_0 := am' hr1_0
 have HC1_0 := am' hc1_0
 clear hr1_0 hc1_0; have HB := am' (Below.refl w.heap.size w)
 have H : ((laws_szParty.f l0_0 a0_1 1048576).bind fun t302 => (if t302 < 0 then (some true) else (laws_FnExactTimeTo.j0 k t302 l0_0 a0_1 l1_0 a1_1))) = some r := h
 clear h; replace H := Option.bind_eq_some_iff.mp H
 obtain ⟨t302, A30, H⟩ := H
 replace H : (if t302 < 0 then (some true) else (laws_FnExactTimeTo.j0 k t302 l0_0 a0_1 l1_0 a1_1)) = some r := H
 have A3 := am' A30
 clear A30; have HC4 := am' H
 clear H; go_enter Try.func9, Try.ntmps9
 go_upto_if 16 with (first | ((with_reducible refine gate_dst (N := 2) rfl ?_); refine box_event ?hg (N := 2) ?hd (cs := #[.slice A0_0 l0_0.length c0_0, .int .i64 a0_1]) (t := 24) ?hr ?_; (case hd => rfl); (case hg => rfl); (case hr => first | (go_simp; done) | (go_simp; rfl)); intro gb300 hg w5 hbox hb; have n0_ := am' (below_step (by repeat (first | (with_reducible first | exact HB.out | apply ba' | apply bd' | apply be') | exact HB.out)) hb); have n1_ := am' (hbox); have n2_ := am' ((by rw [hg]; exact (below_size (by repeat (first | (with_reducible first | exact HB.out | apply ba' | apply bd' | apply be') | exact HB.out))) : w.heap.size ≤ gb300)); have n3_ := am' ((by rw [hg]; exact (below_size (by repeat (first | (with_reducible first | exact HB.out | apply ba' | apply bd' | apply be') | exact HB.out))) : w.heap.size ≤ gb300)); clear HB; have HB := n0_; have BK300 := n1_; have GW300 := n2_; have GE300 := n3_; clear n0_ n1_ n2_ n3_; clear hb hbox hg) | ((with_reducible refine gate_dst (N := 3) rfl ?_); refine box_event ?hg (N := 3) ?hd (cs := #[.slice A1_0 l1_0.length c1_0, .bool a1_1]) (t := 41) ?hr ?_; (case hd => rfl); (case hg => rfl); (case hr => first | (go_simp; done) | (go_simp; rfl)); intro gb301 hg w6 hbox hb; have n0_ := am' (blk_below (g := gb300) (o := .cells #[.slice A0_0 l0_0.length c0_0, .int .i64 a0_1] 24 (0, 0)) (by (with_reducible repeat (first | refine kn' ?_ _ | refine kd' ?_ | refine ka' ?_ _)); exact BK300.out) hb); have n1_ := am' (below_step (by repeat (first | (with_reducible first | exact HB.out | apply ba' | apply bd' | apply be' | refine bs' ?_ GE300.out) | exact HB.out)) hb); have n2_ := am' (hbox); have n3_ := am' ((by rw [hg]; exact (below_size (by repeat (first | (with_reducible first | exact HB.out | apply ba' | apply bd' | apply be' | refine bs' ?_ GE300.out) | exact HB.out))) : w.heap.size ≤ gb301)); have n4_ := am' ((by rw [hg]; exact (below_size (by repeat (first | (with_reducible first | exact HB.out | apply ba' | apply bd' | apply be' | refine bs' ?_ GE300.out) | exact HB.out))) : w.heap.size ≤ gb301)); have n5_ := am' ((by rw [hg]; exact Nat.ne_of_lt (blk_lt (g := gb300) (o := .cells #[.slice A0_0 l0_0.length c0_0, .int .i64 a0_1] 24 (0, 0)) (by (with_reducible repeat (first | refine kn' ?_ _ | refine kd' ?_ | refine ka' ?_ _)); exact BK300.out)) : gb300 ≠ gb301)); have n6_ := am' ((by rw [hg]; exact Nat.ne_of_gt (blk_lt (g := gb300) (o := .cells #[.slice A0_0 l0_0.length c0_0, .int .i64 a0_1] 24 (0, 0)) (by (with_reducible repeat (first | refine kn' ?_ _ | refine kd' ?_ | refine ka' ?_ _)); exact BK300.out)) : gb301 ≠ gb300)); clear BK300; clear HB; have BK300 := n0_; have HB := n1_; have BK301 := n2_; have GW301 := n3_; have GE301 := n4_; have NB300_301 := n5_; have NB301_300 := n6_; clear n0_ n1_ n2_ n3_ n4_ n5_ n6_; clear hb hbox hg; have hnb7 := NB300_301.out; have hnc7 := NB301_300.out; have hcz8_0 : w6.cell? ⟨gb300, 0, none⟩ = some (.slice A0_0 l0_0.length c0_0) := (blk_cell BK300.out 0).trans rfl; have hcz8_1 : w6.cell? ⟨gb300, 1, none⟩ = some (.int .i64 a0_1) := (blk_cell BK300.out 1).trans rfl; have hfz8_0 := blk_frozen BK300.out 0; have hfz8_1 := blk_frozen BK300.out 1) | ((with_reducible refine gate_callee (f := 16) rfl ?_); refine goesL_ (some 14) rfl rfl Try.func16 (by kernel_rfl) rfl #[.agg #[.slice A0_0 l0_0.length c0_0, .int .i64 a0_1], .int .i64 1048576] rfl (by (try simp only [List.map_toArray, List.map_cons, List.map_nil]); first | done | rfl | (simp only [List.length_drop, List.length_take]; rfl)) ?_; (with_reducible refine (laws_szParty.calls _ _ l0_0 a0_1 1048576 t302 _ ?side1 ?side2 A3.out).mono ?_); (case side1 => repeat (first | exact (Kd.C_below HR0_0.out HB.out) | (with_reducible refine ca' ?_ _) | (with_reducible refine cn' ?_ _) | (with_reducible refine cd' ?_))); (case side2 => exact HC0_0.out); rintro e w9 ⟨rfl, hb⟩; refine ⟨_, rfl, ?_⟩; have n0_ := am' (blk_below (g := gb300) (o := .cells #[.slice A0_0 l0_0.length c0_0, .int .i64 a0_1] 24 (0, 0)) (by (with_reducible repeat (first | refine kn' ?_ _ | refine kd' ?_ | refine ka' ?_ _)); exact BK300.out) hb); have n1_ := am' (blk_below (g := gb301) (o := .cells #[.slice A1_0 l1_0.length c1_0, .bool a1_1] 41 (0, 0)) (by (with_reducible repeat (first | refine kn' ?_ _ | refine kd' ?_ | refine ka' ?_ _)); exact BK301.out) hb); have n2_ := am' (below_step (by repeat (first | (with_reducible first | exact HB.out | apply ba' | apply bd' | apply be' | refine bs' ?_ GE300.out | refine bs' ?_ GE301.out) | exact HB.out)) hb); clear BK300; clear BK301; clear HB; have BK300 := n0_; have BK301 := n1_; have HB := n2_; clear n0_ n1_ n2_; (try clear hb); (try clear hb2); (try clear hk); (try clear hi)))
 (try simp only [Act.put, sa', sb', sc'])
 go_cut [] (fun wc => ∃ (kq : Nat), Aside0 (laws_FnExactTimeTo.j0 kq t302 l0_0 a0_1 l1_0 a1_1 = some r) ∧ Aside0 (kq ≤ k) ∧ Aside0 (wc.heap[gb300]? = some (.cells #[(.slice A0_0 l0_0.length c0_0), .int .i64 a0_1] 24 (0, 0))) ∧ Aside0 (wc.heap[gb301]? = some (.cells #[(.slice A1_0 l1_0.length c1_0), .bool a1_1] 41 (0, 0))) ∧ Aside0 (Below w.heap.size w wc))
 case first =>
  have H := HC4.out
  clear HC4; by_cases c10 : t302 < 0
  ·
   rw [if_pos c10] at H; have c10b0 : decide (t302 < 0) = true := decide_eq_true c10
   clear c10; (first | rw [c10b0] | (simp only [i64_w, i32_w]; rw [c10b0]) | skip)
   obtain rfl := Option.some.inj H
   go_wp2
   go_ret
   exact ⟨by first | rfl | (simp [errW_none, errW_some] <;> rfl) | (simp [*, errW_none, errW_some] <;> rfl), by repeat (first | (with_reducible first | exact HB.out | apply ba' | apply bd' | apply be' | refine bs' ?_ GE300.out | refine bs' ?_ GE301.out) | exact HB.out)⟩
  ·
   rw [if_neg c10] at H; have c10b0 : decide (t302 < 0) = false := decide_eq_false c10
   clear c10; (first | rw [c10b0] | (simp only [i64_w, i32_w]; rw [c10b0]) | skip)
   have H' := am' H
   clear H; go_wp2
   go_meet
   case rel => exact ⟨_, H', ⟨by first | omega | exact Nat.le_refl _⟩, ⟨by (with_reducible repeat (first | refine kn' ?_ _ | refine kd' ?_ | refine ka' ?_ _)); exact BK300.out⟩, ⟨by (with_reducible repeat (first | refine kn' ?_ _ | refine kd' ?_ | refine ka' ?_ _)); exact BK301.out⟩, ⟨by repeat (first | (with_reducible first | exact HB.out | apply ba' | apply bd' | apply be' | refine bs' ?_ GE300.out | refine bs' ?_ GE301.out) | exact HB.out)⟩⟩
 case rest =>
  clear HC4; try clear c1
  try clear p2
  try clear c7
  try clear c9
  try clear c10
  try clear c10b0
  try clear hcz8_0
  try clear hcz8_1
  try clear hfz8_0
  try clear hfz8_1
  obtain ⟨kq, HA, HJ3, BK300, BK301, HB⟩ := hcut
  cases kq with
  | zero => exact absurd HA.out (by simp [laws_FnExactTimeTo.j0])
  | succ kj3 =>
   have H := HA.out
   clear HA; simp only [laws_FnExactTimeTo.j0] at H
   replace H := Option.bind_eq_some_iff.mp H
   obtain ⟨t303, A110, H⟩ := H
   replace H : (if t303 < 0 then (some true) else (laws_FnExactTimeTo.j1 kj3 l0_0 a0_1 l1_0 a1_1)) = some r := H
   have A11 := am' A110
   clear A110; have HC12 := am' H
   clear H; have hnb13 := NB301_300.out
   have hnc13 := NB300_301.out
   have hcz14_0 : wc.cell? ⟨gb301, 0, none⟩ = some (.slice A1_0 l1_0.length c1_0) := (blk_cell BK301.out 0).trans rfl
   have hcz14_1 : wc.cell? ⟨gb301, 1, none⟩ = some (.bool a1_1) := (blk_cell BK301.out 1).trans rfl
   have hfz14_0 := blk_frozen BK301.out 0
   have hfz14_1 := blk_frozen BK301.out 1
   go_upto_if 21 with (first | ((with_reducible refine gate_callee (f := 35) rfl ?_); refine goesL_ (some 19) rfl rfl Try.func35 (by kernel_rfl) rfl #[.agg #[.slice A1_0 l1_0.length c1_0, .bool a1_1], .int .i64 t302] rfl (by (try simp only [List.map_toArray, List.map_cons, List.map_nil]); first | done | rfl | (simp only [List.length_drop, List.length_take]; rfl)) ?_; (with_reducible refine (laws_szState.calls _ _ l1_0 a1_1 t302 t303 _ ?side1 ?side2 A11.out).mono ?_); (case side1 => repeat (first | exact (Kd.C_below HR1_0.out HB.out) | (with_reducible refine ca' ?_ _) | (with_reducible refine cn' ?_ _) | (with_reducible refine cd' ?_))); (case side2 => exact HC1_0.out); rintro e w15 ⟨rfl, hb⟩; refine ⟨_, rfl, ?_⟩; have n0_ := am' (blk_below (g := gb300) (o := .cells #[.slice A0_0 l0_0.length c0_0, .int .i64 a0_1] 24 (0, 0)) (by (with_reducible repeat (first | refine kn' ?_ _ | refine kd' ?_ | refine ka' ?_ _)); exact BK300.out) hb); have n1_ := am' (blk_below (g := gb301) (o := .cells #[.slice A1_0 l1_0.length c1_0, .bool a1_1] 41 (0, 0)) (by (with_reducible repeat (first | refine kn' ?_ _ | refine kd' ?_ | refine ka' ?_ _)); exact BK301.out) hb); have n2_ := am' (below_step (by repeat (first | (with_reducible first | exact HB.out | apply ba' | apply bd' | apply be' | refine bs' ?_ GE300.out | refine bs' ?_ GE301.out) | exact HB.out)) hb); clear BK300; clear BK301; clear HB; have BK300 := n0_; have BK301 := n1_; have HB := n2_; clear n0_ n1_ n2_; (try clear hb); (try clear hb2); (try clear hk); (try clear hi)))
   (try simp only [Act.put, sa', sb', sc'])
   go_cut [] (fun wc => ∃ (kq : Nat), Aside0 (laws_FnExactTimeTo.j1 kq l0_0 a0_1 l1_0 a1_1 = some r) ∧ Aside0 (kq ≤ kj3) ∧ Aside0 (wc.heap[gb300]? = some (.cells #[(.slice A0_0 l0_0.length c0_0), .int .i64 a0_1] 24 (0, 0))) ∧ Aside0 (wc.heap[gb301]? = some (.cells #[(.slice A1_0 l1_0.length c1_0), .bool a1_1] 41 (0, 0))) ∧ Aside0 (Below w.heap.size w wc))
   case first =>
    have H := HC12.out
    clear HC12; by_cases c16 : t303 < 0
    ·
     rw [if_pos c16] at H; have c16b0 : decide (t303 < 0) = true := decide_eq_true c16
     clear c16; (first | rw [c16b0] | (simp only [i64_w, i32_w]; rw [c16b0]) | skip)
     obtain rfl := Option.some.inj H
     go_wp2
     go_ret
     exact ⟨by first | rfl | (simp [errW_none, errW_some] <;> rfl) | (simp [*, errW_none, errW_some] <;> rfl), by repeat (first | (with_reducible first | exact HB.out | apply ba' | apply bd' | apply be' | refine bs' ?_ GE300.out | refine bs' ?_ GE301.out) | exact HB.out)⟩
    ·
     rw [if_neg c16] at H; have c16b0 : decide (t303 < 0) = false := decide_eq_false c16
     clear c16; (first | rw [c16b0] | (simp only [i64_w, i32_w]; rw [c16b0]) | skip)
     have H' := am' H
     clear H; go_wp2
     go_meet
     case rel => exact ⟨_, H', ⟨by have := HJ3.out; first | omega | exact Nat.le_refl _⟩, ⟨by (with_reducible repeat (first | refine kn' ?_ _ | refine kd' ?_ | refine ka' ?_ _)); exact BK300.out⟩, ⟨by (with_reducible repeat (first | refine kn' ?_ _ | refine kd' ?_ | refine ka' ?_ _)); exact BK301.out⟩, ⟨by repeat (first | (with_reducible first | exact HB.out | apply ba' | apply bd' | apply be' | refine bs' ?_ GE300.out | refine bs' ?_ GE301.out) | exact HB.out)⟩⟩
   case rest =>
    clear HC12; try clear c1
    try clear p2
    try clear c3
    try clear c7
    try clear c9
    try clear c10
    try clear c10b0
    try clear c13
    try clear c16
    try clear c16b0
    try clear hcz14_0
    try clear hcz14_1
    try clear hcz8_0
    try clear hcz8_1
    try clear hfz14_0
    try clear hfz14_1
    try clear hfz8_0
    try clear hfz8_1
    try clear p2
    obtain ⟨kq, HA, HJ11, BK300, BK301, HB⟩ := hcut
    cases kq with
    | zero => exact absurd HA.out (by simp [laws_FnExactTimeTo.j1])
    | succ kj11 =>
     have H := HA.out
     clear HA; simp only [laws_FnExactTimeTo.j1] at H
     replace H := Option.bind_eq_some_iff.mp H
     obtain ⟨⟨t304, t307⟩, A170, H⟩ := H
     replace H : ((laws_toState.f kj11 l1_0 a1_1).bind fun bt308 => ((spec_TimeTo.f kj11 t304 t307 bt308.1 bt308.2).bind fun bt312 => ((laws_toParty.f kj11 l0_0 a0_1).bind fun bt314 => ((laws_toState.f kj11 l1_0 a1_1).bind fun bt319 => ((impl_TimeTo.f kj11 bt314.1 bt314.2 bt319.1 bt319.2).bind fun bt324 => (if bt324.1 = bt312.1 then (laws_FnExactTimeTo.j2 kj11 (bt324.2 != bt312.2) l0_0 a0_1 l1_0 a1_1 bt314.1 bt314.2 bt319.1 bt319.2) else (laws_FnExactTimeTo.j2 kj11 true l0_0 a0_1 l1_0 a1_1 bt314.1 bt314.2 bt319.1 bt319.2))))))) = some r := H
     have A17 := am' A170
     clear A170; replace H := Option.bind_eq_some_iff.mp H
     obtain ⟨⟨t308, t311⟩, A180, H⟩ := H
     replace H : ((spec_TimeTo.f kj11 t304 t307 t308 t311).bind fun bt312 => ((laws_toParty.f kj11 l0_0 a0_1).bind fun bt314 => ((laws_toState.f kj11 l1_0 a1_1).bind fun bt319 => ((impl_TimeTo.f kj11 bt314.1 bt314.2 bt319.1 bt319.2).bind fun bt324 => (if bt324.1 = bt312.1 then (laws_FnExactTimeTo.j2 kj11 (bt324.2 != bt312.2) l0_0 a0_1 l1_0 a1_1 bt314.1 bt314.2 bt319.1 bt319.2) else (laws_FnExactTimeTo.j2 kj11 true l0_0 a0_1 l1_0 a1_1 bt314.1 bt314.2 bt319.1 bt319.2)))))) = some r := H
     have A18 := am' A180
     clear A180; replace H := Option.bind_eq_some_iff.mp H
     obtain ⟨⟨t312, t313⟩, A190, H⟩ := H
     replace H : ((laws_toParty.f kj11 l0_0 a0_1).bind fun bt314 => ((laws_toState.f kj11 l1_0 a1_1).bind fun bt319 => ((impl_TimeTo.f kj11 bt314.1 bt314.2 bt319.1 bt319.2).bind fun bt324 => (if bt324.1 = t312 then (laws_FnExactTimeTo.j2 kj11 (bt324.2 != t313) l0_0 a0_1 l1_0 a1_1 bt314.1 bt314.2 bt319.1 bt319.2) else (laws_FnExactTimeTo.j2 kj11 true l0_0 a0_1 l1_0 a1_1 bt314.1 bt314.2 bt319.1 bt319.2))))) = some r := H
     have A19 := am' A190
     clear A190; replace H := Option.bind_eq_some_iff.mp H
     obtain ⟨⟨t314, t317⟩, A200, H⟩ := H
     replace H : ((laws_toState.f kj11 l1_0 a1_1).bind fun bt319 => ((impl_TimeTo.f kj11 t314 t317 bt319.1 bt319.2).bind fun bt324 => (if bt324.1 = t312 then (laws_FnExactTimeTo.j2 kj11 (bt324.2 != t313) l0_0 a0_1 l1_0 a1_1 t314 t317 bt319.1 bt319.2) else (laws_FnExactTimeTo.j2 kj11 true l0_0 a0_1 l1_0 a1_1 t314 t317 bt319.1 bt319.2)))) = some r := H
     have A20 := am' A200
     clear A200; replace H := Option.bind_eq_some_iff.mp H
     obtain ⟨⟨t319, t322⟩, A210, H⟩ := H
     replace H : ((impl_TimeTo.f kj11 t314 t317 t319 t322).bind fun bt324 => (if bt324.1 = t312 then (laws_FnExactTimeTo.j2 kj11 (bt324.2 != t313) l0_0 a0_1 l1_0 a1_1 t314 t317 t319 t322) else (laws_FnExactTimeTo.j2 kj11 true l0_0 a0_1 l1_0 a1_1 t314 t317 t319 t322))) = some r := H
     have A21 := am' A210
     clear A210; replace H := Option.bind_eq_some_iff.mp H
     obtain ⟨⟨t324, t325⟩, A220, H⟩ := H
     replace H : (if t324 = t312 then (laws_FnExactTimeTo.j2 kj11 (t325 != t313) l0_0 a0_1 l1_0 a1_1 t314 t317 t319 t322) else (laws_FnExactTimeTo.j2 kj11 true l0_0 a0_1 l1_0 a1_1 t314 t317 t319 t322)) = some r := H
     have A22 := am' A220
     clear A220; have HC23 := am' H
     clear H; try go_wp2
     have n0_ := am' (kd' BK300.out)
     have n1_ := am' (kd' BK301.out)
     have n2_ := am' (be' HB.out)
     clear BK300; clear BK301; clear HB; have BK300 := n0_; have BK301 := n1_; have HB := n2_; clear n0_ n1_ n2_; refine start_ (n := 10) (S := fun w' => w'.cell? ⟨gb300, 0, none⟩ = some (.slice A0_0 l0_0.length c0_0) ∧ w'.cell? ⟨gb300, 1, none⟩ = some (.int .i64 a0_1) ∧ w'.cell? ⟨gb301, 0, none⟩ = some (.slice A1_0 l1_0.length c1_0) ∧ w'.cell? ⟨gb301, 1, none⟩ = some (.bool a1_1)) (ds := []) #[false, false, false, false, false, false, false, false, false, false] (by kernel_rfl) rfl rfl ⟨(blk_cell BK300.out 0).trans rfl, (blk_cell BK300.out 1).trans rfl, (blk_cell BK301.out 0).trans rfl, (blk_cell BK301.out 1).trans rfl⟩ (fun hHeld => ?_); refine with_tabW laws_FnExactTimeTo.tab8 laws_FnExactTimeTo.bits8 (fun HT_ HW_ => ?_)
     generalize wc.drew = w24 at BK300 BK301 HB hHeld ⊢
     refine take_ (i := 0) (N := some 23) (v := ?_) (a' := ?_) #[true, false, false, false, false, false, false, false, false, false] rfl rfl (take_ofW HT_.out HW_.out (by kernel_rfl)) (fun _ _ _ h => h) (Or.inl ⟨by rfl, ?_⟩) hHeld ?_ ?_
     rotate_left
     ·
      rintro w' ⟨s0, s1, s2, s3⟩
      go_simp; with_reducible rfl
     rotate_left
     ·
      simp only [Act.put, sa', sb', sc', i64_w, i32_w]
      rfl
     refine take_ (i := 2) (N := some 25) (v := ?_) (a' := ?_) #[true, false, true, false, false, false, false, false, false, false] rfl rfl (take_ofW HT_.out HW_.out (by kernel_rfl)) (fun _ _ _ h => h) (Or.inl ⟨by rfl, ?_⟩) hHeld ?_ ?_
     rotate_left
     ·
      rintro w' ⟨s0, s1, s2, s3⟩
      go_simp; with_reducible rfl
     rotate_left
     ·
      simp only [Act.put, sa', sb', sc', i64_w, i32_w]
      rfl
     refine one_ (i := 1) (N := some 24) #[true, true, true, false, false, false, false, false, false, false] rfl rfl (one_of HT_.out (by kernel_rfl)) (by decide) (fun K hK => ?_)
     refine goes_ Try.func18 (by kernel_rfl) rfl #[.agg #[.slice A0_0 l0_0.length c0_0, .int .i64 a0_1]] (by rfl) rfl rfl (by (try simp only [List.map_toArray, List.map_cons, List.map_nil]); first | done | rfl | (simp only [List.length_drop, List.length_take]; rfl)) ?_
     with_reducible refine (laws_toParty.calls kj11 _ _ l0_0 a0_1 t304 t307 _ ?side1 ?side2 A17.out).mono ?_
     (case side1 => repeat (first | exact (Kd.C_below HR0_0.out HB.out) | (with_reducible refine ca' ?_ _) | (with_reducible refine cn' ?_ _) | (with_reducible refine cd' ?_)))
     (case side2 => exact HC0_0.out)
     rintro e w25 ⟨v305, rfl, ho0, hb⟩
     refine ⟨_, rfl, ?_⟩
     have n0_ := am' (Kd.R_lower ho0 (below_size (by repeat (first | (with_reducible first | exact HB.out | apply ba' | apply bd' | apply be' | refine bs' ?_ GE300.out | refine bs' ?_ GE301.out) | exact HB.out))))
     have n1_ := am' (blk_below (g := gb300) (o := .cells #[.slice A0_0 l0_0.length c0_0, .int .i64 a0_1] 24 (0, 0)) (by (with_reducible repeat (first | refine kn' ?_ _ | refine kd' ?_ | refine ka' ?_ _)); exact BK300.out) hb)
     have n2_ := am' (blk_below (g := gb301) (o := .cells #[.slice A1_0 l1_0.length c1_0, .bool a1_1] 41 (0, 0)) (by (with_reducible repeat (first | refine kn' ?_ _ | refine kd' ?_ | refine ka' ?_ _)); exact BK301.out) hb)
     have n3_ := am' (below_step (by repeat (first | (with_reducible first | exact HB.out | apply ba' | apply bd' | apply be' | refine bs' ?_ GE300.out | refine bs' ?_ GE301.out) | exact HB.out)) hb)
     clear BK300; clear BK301; clear HB; have HO306 := n0_; have BK300 := n1_; have BK301 := n2_; have HB := n3_; clear n0_ n1_ n2_ n3_; (try clear hb)
     (try clear hb2)
     (try clear hk)
     (try clear hi)
     (try clear ho0)
     refine hK.out _ _ ⟨(blk_cell BK300.out 0).trans rfl, (blk_cell BK300.out 1).trans rfl, (blk_cell BK301.out 0).trans rfl, (blk_cell BK301.out 1).trans rfl⟩ (fun hHeld => ?_)
     clear hK K; refine norm_ (a' := ?_) ?_ ?_
     rotate_left
     ·
      show Act.put _ (some 24) _ = _
      simp only [Act.put, sa', sb', sc', i64_w, i32_w]
      rfl
     refine one_ (i := 3) (N := some 26) #[true, true, true, true, false, false, false, false, false, false] rfl rfl (one_of HT_.out (by kernel_rfl)) (by decide) (fun K hK => ?_)
     refine goes_ Try.func37 (by kernel_rfl) rfl #[.agg #[.slice A1_0 l1_0.length c1_0, .bool a1_1]] (by rfl) rfl rfl (by (try simp only [List.map_toArray, List.map_cons, List.map_nil]); first | done | rfl | (simp only [List.length_drop, List.length_take]; rfl)) ?_
     with_reducible refine (laws_toState.calls kj11 _ _ l1_0 a1_1 t308 t311 _ ?side1 ?side2 A18.out).mono ?_
     (case side1 => repeat (first | exact (Kd.C_below HR1_0.out HB.out) | (with_reducible refine ca' ?_ _) | (with_reducible refine cn' ?_ _) | (with_reducible refine cd' ?_)))
     (case side2 => exact HC1_0.out)
     rintro e w26 ⟨v309, rfl, ho0, hb⟩
     refine ⟨_, rfl, ?_⟩
     have n0_ := am' (Kd.R_below (by (with_reducible repeat (first | apply ra' | apply rn' | apply rw')); exact HO306.out) hb)
     have n1_ := am' (Kd.R_lower ho0 (below_size (by repeat (first | (with_reducible first | exact HB.out | apply ba' | apply bd' | apply be' | refine bs' ?_ GE300.out | refine bs' ?_ GE301.out) | exact HB.out))))
     have n2_ := am' (blk_below (g := gb300) (o := .cells #[.slice A0_0 l0_0.length c0_0, .int .i64 a0_1] 24 (0, 0)) (by (with_reducible repeat (first | refine kn' ?_ _ | refine kd' ?_ | refine ka' ?_ _)); exact BK300.out) hb)
     have n3_ := am' (blk_below (g := gb301) (o := .cells #[.slice A1_0 l1_0.length c1_0, .bool a1_1] 41 (0, 0)) (by (with_reducible repeat (first | refine kn' ?_ _ | refine kd' ?_ | refine ka' ?_ _)); exact BK301.out) hb)
     have n4_ := am' (below_step (by repeat (first | (with_reducible first | exact HB.out | apply ba' | apply bd' | apply be' | refine bs' ?_ GE300.out | refine bs' ?_ GE301.out) | exact HB.out)) hb)
     clear HO306; clear BK300; clear BK301; clear HB; have HO306 := n0_; have HO310 := n1_; have BK300 := n2_; have BK301 := n3_; have HB := n4_; clear n0_ n1_ n2_ n3_ n4_; (try clear hb)
     (try clear hb2)
     (try clear hk)
     (try clear hi)
     (try clear ho0)
     obtain ⟨Ao27, co27, eo27⟩ := Kd.R_slice HO306.out
     (first | subst eo27 | (injection eo27 with f1_ f2_ f3_; have f4_ := f1_.symm; have f5_ := f3_.symm; clear f1_ f2_ f3_; subst f4_; subst f5_))
     obtain ⟨Ao28, co28, eo28⟩ := Kd.R_slice HO310.out
     (first | subst eo28 | (injection eo28 with f1_ f2_ f3_; have f4_ := f1_.symm; have f5_ := f3_.symm; clear f1_ f2_ f3_; subst f4_; subst f5_))
     refine hK.out _ _ ⟨(blk_cell BK300.out 0).trans rfl, (blk_cell BK300.out 1).trans rfl, (blk_cell BK301.out 0).trans rfl, (blk_cell BK301.out 1).trans rfl⟩ (fun hHeld => ?_)
     clear hK K; refine norm_ (a' := ?_) ?_ ?_
     rotate_left
     ·
      show Act.put _ (some 26) _ = _
      simp only [Act.put, sa', sb', sc', i64_w, i32_w]
      rfl
     refine one_ (i := 4) (N := some 27) #[true, true, true, true, true, false, false, false, false, false] rfl rfl (one_of HT_.out (by kernel_rfl)) (by decide) (fun K hK => ?_)
     refine goes_ Try.func36 (by kernel_rfl) rfl #[.agg #[.slice Ao27 t304.length co27, .int .i64 t307], .agg #[.slice Ao28 t308.length co28, .bool t311]] (by rfl) rfl rfl (by (try simp only [List.map_toArray, List.map_cons, List.map_nil]); first | done | rfl | (simp only [List.length_drop, List.length_take]; rfl)) ?_
     with_reducible refine (spec_TimeTo.calls kj11 _ _ t304 t307 _ _ t308 t311 t312 t313 _ ?side1 ?side2 ?side3 ?side4 A19.out).mono ?_
     (case side1 => repeat (first | exact (Kd.R_reads' HO306.out).2.2 | (with_reducible refine ca' ?_ _) | (with_reducible refine cn' ?_ _) | (with_reducible refine cd' ?_)))
     (case side2 => exact (Kd.R_reads' HO306.out).2.1)
     (case side3 => repeat (first | exact (Kd.R_reads' HO310.out).2.2 | (with_reducible refine ca' ?_ _) | (with_reducible refine cn' ?_ _) | (with_reducible refine cd' ?_)))
     (case side4 => exact (Kd.R_reads' HO310.out).2.1)
     rintro e w29 ⟨rfl, hb⟩
     refine ⟨_, rfl, ?_⟩
     have n0_ := am' (Kd.R_below (by (with_reducible repeat (first | apply ra' | apply rn' | apply rw')); exact HO306.out) hb)
     have n1_ := am' (Kd.R_below (by (with_reducible repeat (first | apply ra' | apply rn' | apply rw')); exact HO310.out) hb)
     have n2_ := am' (blk_below (g := gb300) (o := .cells #[.slice A0_0 l0_0.length c0_0, .int .i64 a0_1] 24 (0, 0)) (by (with_reducible repeat (first | refine kn' ?_ _ | refine kd' ?_ | refine ka' ?_ _)); exact BK300.out) hb)
     have n3_ := am' (blk_below (g := gb301) (o := .cells #[.slice A1_0 l1_0.length c1_0, .bool a1_1] 41 (0, 0)) (by (with_reducible repeat (first | refine kn' ?_ _ | refine kd' ?_ | refine ka' ?_ _)); exact BK301.out) hb)
     have n4_ := am' (below_step (by repeat (first | (with_reducible first | exact HB.out | apply ba' | apply bd' | apply be' | refine bs' ?_ GE300.out | refine bs' ?_ GE301.out) | exact HB.out)) hb)
     clear HO306; clear HO310; clear BK300; clear BK301; clear HB; have HO306 := n0_; have HO310 := n1_; have BK300 := n2_; have BK301 := n3_; have HB := n4_; clear n0_ n1_ n2_ n3_ n4_; (try clear hb)
     (try clear hb2)
     (try clear hk)
     (try clear hi)
     refine hK.out _ _ ⟨(blk_cell BK300.out 0).trans rfl, (blk_cell BK300.out 1).trans rfl, (blk_cell BK301.out 0).trans rfl, (blk_cell BK301.out 1).trans rfl⟩ (fun hHeld => ?_)
     clear hK K; refine norm_ (a' := ?_) ?_ ?_
     rotate_left
     ·
      show Act.put _ (some 27) _ = _
      simp only [Act.put, sa', sb', sc', i64_w, i32_w]
      rfl
     refine pure_ (i := 5) (N := some 22) (v := ?_) (a' := ?_) #[true, true, true, true, true, true, false, false, false, false] rfl rfl (any_of HT_.out (by kernel_rfl)) (fun _ _ _ h => h) (Or.inl ⟨by rfl, ?_⟩) ?_ ?_
     rotate_left
     ·
      intro w'; go_simp; with_reducible rfl
     rotate_left
     ·
      simp only [Act.put, sa', sb', sc', i64_w, i32_w]
      rfl
     refine pure_ (i := 6) (N := some 28) (v := ?_) (a' := ?_) #[true, true, true, true, true, true, true, false, false, false] rfl rfl (any_of HT_.out (by kernel_rfl)) (fun _ _ _ h => h) (Or.inl ⟨by rfl, ?_⟩) ?_ ?_
     rotate_left
     ·
      intro w'; go_simp; with_reducible rfl
     rotate_left
     ·
      simp only [Act.put, sa', sb', sc', i64_w, i32_w]
      rfl
     refine pure_ (i := 7) (N := some 29) (v := ?_) (a' := ?_) #[true, true, true, true, true, true, true, true, false, false] rfl rfl (any_of HT_.out (by kernel_rfl)) (fun _ _ _ h => h) (Or.inl ⟨by rfl, ?_⟩) ?_ ?_
     rotate_left
     ·
      intro w'; go_simp; with_reducible rfl
     rotate_left
     ·
      simp only [Act.put, sa', sb', sc', i64_w, i32_w]
      rfl
     refine pure_ (i := 8) (N := some 6) (v := ?_) (a' := ?_) #[true, true, true, true, true, true, true, true, true, false] rfl rfl (any_of HT_.out (by kernel_rfl)) (fun _ _ _ h => h) (Or.inl ⟨by rfl, ?_⟩) ?_ ?_
     rotate_left
     ·
      intro w'; go_simp; with_reducible rfl
     rotate_left
     ·
      simp only [Act.put, sa', sb', sc', i64_w, i32_w]
      rfl
     refine pure_ (i := 9) (N := some 7) (v := ?_) (a' := ?_) #[true, true, true, true, true, true, true, true, true, true] rfl rfl (any_of HT_.out (by kernel_rfl)) (fun _ _ _ h => h) (Or.inl ⟨by rfl, ?_⟩) ?_ ?_
     rotate_left
     ·
      intro w'; go_simp; with_reducible rfl
     rotate_left
     ·
      simp only [Act.put, sa', sb', sc', i64_w, i32_w]
      rfl
     refine done_ (done_of HT_.out (by kernel_rfl)) ?_
     have hnb30 := NB300_301.out
     have hnc30 := NB301_300.out
     have hcz31_0 : w29.cell? ⟨gb300, 0, none⟩ = some (.slice A0_0 l0_0.length c0_0) := (blk_cell BK300.out 0).trans rfl
     have hcz31_1 : w29.cell? ⟨gb300, 1, none⟩ = some (.int .i64 a0_1) := (blk_cell BK300.out 1).trans rfl
     have hfz31_0 := blk_frozen BK300.out 0
     have hfz31_1 := blk_frozen BK300.out 1
     go_upto_region 12 with (first | ((with_reducible refine gate_callee (f := 18) rfl ?_); refine goesL_ (some 31) rfl rfl Try.func18 (by kernel_rfl) rfl #[.agg #[.slice A0_0 l0_0.length c0_0, .int .i64 a0_1]] rfl (by (try simp only [List.map_toArray, List.map_cons, List.map_nil]); first | done | rfl | (simp only [List.length_drop, List.length_take]; rfl)) ?_; (with_reducible refine (laws_toParty.calls kj11 _ _ l0_0 a0_1 t314 t317 _ ?side1 ?side2 A20.out).mono ?_); (case side1 => repeat (first | exact (Kd.C_below HR0_0.out HB.out) | (with_reducible refine ca' ?_ _) | (with_reducible refine cn' ?_ _) | (with_reducible refine cd' ?_))); (case side2 => exact HC0_0.out); rintro e w32 ⟨v315, rfl, ho0, hb⟩; refine ⟨_, rfl, ?_⟩; obtain ⟨D336_, hdl_, hdg_⟩ := dlt_of hb; have D336_lt := am' hdl_; have D336_ge := am' hdg_; clear hdl_ hdg_; have n0_ := am' (Kd.R_elder' (Kd.R_dlt (by (with_reducible repeat (first | apply ra' | apply rn' | apply rw')); exact HO306.out) D336_lt.out) (Kd.R_base ho0) hb); have n1_ := am' (Kd.R_below (Kd.R_dlt (by (with_reducible repeat (first | apply ra' | apply rn' | apply rw')); exact HO310.out) D336_lt.out) hb); have n2_ := am' (Kd.R_lower (Kd.R_new' (Kd.R_dge ho0 D336_ge.out) (Kd.R_lt (by (with_reducible repeat (first | apply ra' | apply rn' | apply rw')); exact HO306.out))) (below_size (by repeat (first | (with_reducible first | exact HB.out | apply ba' | apply bd' | apply be' | refine bs' ?_ GE300.out | refine bs' ?_ GE301.out) | exact HB.out)))); have n3_ := am' (blk_below (g := gb300) (o := .cells #[.slice A0_0 l0_0.length c0_0, .int .i64 a0_1] 24 (0, 0)) (by (with_reducible repeat (first | refine kn' ?_ _ | refine kd' ?_ | refine ka' ?_ _)); exact BK300.out) hb); have n4_ := am' (blk_below (g := gb301) (o := .cells #[.slice A1_0 l1_0.length c1_0, .bool a1_1] 41 (0, 0)) (by (with_reducible repeat (first | refine kn' ?_ _ | refine kd' ?_ | refine ka' ?_ _)); exact BK301.out) hb); have n5_ := am' (below_step (by repeat (first | (with_reducible first | exact HB.out | apply ba' | apply bd' | apply be' | refine bs' ?_ GE300.out | refine bs' ?_ GE301.out) | exact HB.out)) hb); clear HO306; clear HO310; clear BK300; clear BK301; clear HB; have HO306 := n0_; have HO310 := n1_; have HO316 := n2_; have BK300 := n3_; have BK301 := n4_; have HB := n5_; clear n0_ n1_ n2_ n3_ n4_ n5_; (try clear hb); (try clear hb2); (try clear hk); (try clear hi); (try clear ho0)) | ((with_reducible refine gate_dst (N := 8) rfl ?_); refine box_event ?hg (N := 8) ?hd (cs := #[.slice none 0 0, .int .i64 0]) (t := 28) ?hr ?_; (case hd => rfl); (case hg => rfl); (case hr => first | (go_simp; done) | (go_simp; rfl)); intro gb318 hg w33 hbox hb; have n0_ := am' (Kd.R_below (by (with_reducible repeat (first | apply ra' | apply rn' | apply rw')); exact HO306.out) hb); have n1_ := am' (Kd.R_below (by (with_reducible repeat (first | apply ra' | apply rn' | apply rw')); exact HO310.out) hb); have n2_ := am' (Kd.R_below (by (with_reducible repeat (first | apply ra' | apply rn' | apply rw')); exact HO316.out) hb); have n3_ := am' (blk_below (g := gb300) (o := .cells #[.slice A0_0 l0_0.length c0_0, .int .i64 a0_1] 24 (0, 0)) (by (with_reducible repeat (first | refine kn' ?_ _ | refine kd' ?_ | refine ka' ?_ _)); exact BK300.out) hb); have n4_ := am' (blk_below (g := gb301) (o := .cells #[.slice A1_0 l1_0.length c1_0, .bool a1_1] 41 (0, 0)) (by (with_reducible repeat (first | refine kn' ?_ _ | refine kd' ?_ | refine ka' ?_ _)); exact BK301.out) hb); have n5_ := am' (below_step (by repeat (first | (with_reducible first | exact HB.out | apply ba' | apply bd' | apply be' | refine bs' ?_ GE300.out | refine bs' ?_ GE301.out) | exact HB.out)) hb); have n6_ := am' (hbox); have n7_ := am' ((by rw [hg]; exact (below_size (by repeat (first | (with_reducible first | exact HB.out | apply ba' | apply bd' | apply be' | refine bs' ?_ GE300.out | refine bs' ?_ GE301.out) | exact HB.out))) : w.heap.size ≤ gb318)); have n8_ := am' ((by rw [hg]; exact (below_size (by repeat (first | (with_reducible first | exact HB.out | apply ba' | apply bd' | apply be' | refine bs' ?_ GE300.out | refine bs' ?_ GE301.out) | exact HB.out))) : w.heap.size ≤ gb318)); have n9_ := am' ((by rw [hg]; exact Nat.ne_of_lt (blk_lt (g := gb300) (o := .cells #[.slice A0_0 l0_0.length c0_0, .int .i64 a0_1] 24 (0, 0)) (by (with_reducible repeat (first | refine kn' ?_ _ | refine kd' ?_ | refine ka' ?_ _)); exact BK300.out)) : gb300 ≠ gb318)); have n10_ := am' ((by rw [hg]; exact Nat.ne_of_gt (blk_lt (g := gb300) (o := .cells #[.slice A0_0 l0_0.length c0_0, .int .i64 a0_1] 24 (0, 0)) (by (with_reducible repeat (first | refine kn' ?_ _ | refine kd' ?_ | refine ka' ?_ _)); exact BK300.out)) : gb318 ≠ gb300)); have n11_ := am' ((by rw [hg]; exact Nat.ne_of_lt (blk_lt (g := gb301) (o := .cells #[.slice A1_0 l1_0.length c1_0, .bool a1_1] 41 (0, 0)) (by (with_reducible repeat (first | refine kn' ?_ _ | refine kd' ?_ | refine ka' ?_ _)); exact BK301.out)) : gb301 ≠ gb318)); have n12_ := am' ((by rw [hg]; exact Nat.ne_of_gt (blk_lt (g := gb301) (o := .cells #[.slice A1_0 l1_0.length c1_0, .bool a1_1] 41 (0, 0)) (by (with_reducible repeat (first | refine kn' ?_ _ | refine kd' ?_ | refine ka' ?_ _)); exact BK301.out)) : gb318 ≠ gb301)); clear HO306; clear HO310; clear HO316; clear BK300; clear BK301; clear HB; have HO306 := n0_; have HO310 := n1_; have HO316 := n2_; have BK300 := n3_; have BK301 := n4_; have HB := n5_; have BK318 := n6_; have GW318 := n7_; have GE318 := n8_; have NB300_318 := n9_; have NB318_300 := n10_; have NB301_318 := n11_; have NB318_301 := n12_; clear n0_ n1_ n2_ n3_ n4_ n5_ n6_ n7_ n8_ n9_ n10_ n11_ n12_; clear hb hbox hg; obtain ⟨Ao34, co34, eo34⟩ := Kd.R_slice HO316.out; subst eo34; have hnb35 := NB318_300.out; have hnc35 := NB300_318.out; have hnb36 := NB318_301.out; have hnc36 := NB301_318.out; have hcz37_0 : w33.cell? ⟨gb318, 0, none⟩ = some (.slice none 0 0) := (blk_cell BK318.out 0).trans rfl; have hcz37_1 : w33.cell? ⟨gb318, 1, none⟩ = some (.int .i64 0) := (blk_cell BK318.out 1).trans rfl; have hfz37_0 := blk_frozen BK318.out 0; have hfz37_1 := blk_frozen BK318.out 1; have hcz38_0 : w33.cell? ⟨gb301, 0, none⟩ = some (.slice A1_0 l1_0.length c1_0) := (blk_cell BK301.out 0).trans rfl; have hcz38_1 : w33.cell? ⟨gb301, 1, none⟩ = some (.bool a1_1) := (blk_cell BK301.out 1).trans rfl; have hfz38_0 := blk_frozen BK301.out 0; have hfz38_1 := blk_frozen BK301.out 1) | ((with_reducible refine gate_callee (f := 37) rfl ?_); refine goesL_ (some 33) rfl rfl Try.func37 (by kernel_rfl) rfl #[.agg #[.slice A1_0 l1_0.length c1_0, .bool a1_1]] rfl (by (try simp only [List.map_toArray, List.map_cons, List.map_nil]); first | done | rfl | (simp only [List.length_drop, List.length_take]; rfl)) ?_; (with_reducible refine (laws_toState.calls kj11 _ _ l1_0 a1_1 t319 t322 _ ?side1 ?side2 A21.out).mono ?_); (case side1 => exact Kd.C_below HR1_0.out (by repeat (first | (with_reducible first | exact HB.out | apply ba' | apply bd' | apply be' | refine bs' ?_ GE300.out | refine bs' ?_ GE301.out | refine bs' ?_ GE318.out) | exact HB.out))); (case side2 => exact HC1_0.out); rintro e w39 ⟨v320, rfl, ho0, hb⟩; refine ⟨_, rfl, ?_⟩; obtain ⟨D337_, hdl_, hdg_⟩ := dlt_of hb; have D337_lt := am' hdl_; have D337_ge := am' hdg_; clear hdl_ hdg_; have n0_ := am' (Kd.R_below (Kd.R_dlt (by (with_reducible repeat (first | apply ra' | apply rn' | apply rw')); exact (Kd.R_mono (Kd.R_far (p := ⟨gb318, 1, none⟩) (Kd.R_far (p := ⟨gb318, 0, none⟩) (Kd.R_types HO306.out BK318.out (by decide)) (fun _ hk => hk.2) (.slice Ao34 t314.length co34)) (fun _ hk => hk.2) (.int .i64 t317)) (fun _ h_ => h_.1))) D337_lt.out) hb); have n1_ := am' (Kd.R_elder' (Kd.R_dlt (by (with_reducible repeat (first | apply ra' | apply rn' | apply rw')); exact (Kd.R_mono (Kd.R_far (p := ⟨gb318, 1, none⟩) (Kd.R_far (p := ⟨gb318, 0, none⟩) (Kd.R_types HO310.out BK318.out (by decide)) (fun _ hk => hk.2) (.slice Ao34 t314.length co34)) (fun _ hk => hk.2) (.int .i64 t317)) (fun _ h_ => h_.1))) D337_lt.out) (Kd.R_base ho0) hb); have n2_ := am' (Kd.R_below (Kd.R_dlt (by (with_reducible repeat (first | apply ra' | apply rn' | apply rw')); exact (Kd.R_mono (Kd.R_far (p := ⟨gb318, 1, none⟩) (Kd.R_far (p := ⟨gb318, 0, none⟩) (Kd.R_types HO316.out BK318.out (by decide)) (fun _ hk => hk.2) (.slice Ao34 t314.length co34)) (fun _ hk => hk.2) (.int .i64 t317)) (fun _ h_ => h_.1))) D337_lt.out) hb); have n3_ := am' (Kd.R_lower (Kd.R_new' (Kd.R_dge ho0 D337_ge.out) (Kd.R_lt (by (with_reducible repeat (first | apply ra' | apply rn' | apply rw')); exact (Kd.R_mono (Kd.R_far (p := ⟨gb318, 1, none⟩) (Kd.R_far (p := ⟨gb318, 0, none⟩) (Kd.R_types HO310.out BK318.out (by decide)) (fun _ hk => hk.2) (.slice Ao34 t314.length co34)) (fun _ hk => hk.2) (.int .i64 t317)) (fun _ h_ => h_.1))))) (below_size (by repeat (first | (with_reducible first | exact HB.out | apply ba' | apply bd' | apply be' | refine bs' ?_ GE300.out | refine bs' ?_ GE301.out | refine bs' ?_ GE318.out) | exact HB.out)))); have n4_ := am' (blk_below (g := gb300) (o := .cells #[.slice A0_0 l0_0.length c0_0, .int .i64 a0_1] 24 (0, 0)) (by (with_reducible repeat (first | refine kn' ?_ _ | refine kd' ?_ | refine ka' ?_ _)); refine blk_far ?_ NB300_318.out _; (with_reducible repeat (first | refine kn' ?_ _ | refine kd' ?_ | refine ka' ?_ _)); refine blk_far ?_ NB300_318.out _; (with_reducible repeat (first | refine kn' ?_ _ | refine kd' ?_ | refine ka' ?_ _)); exact BK300.out) hb); have n5_ := am' (blk_below (g := gb301) (o := .cells #[.slice A1_0 l1_0.length c1_0, .bool a1_1] 41 (0, 0)) (by (with_reducible repeat (first | refine kn' ?_ _ | refine kd' ?_ | refine ka' ?_ _)); refine blk_far ?_ NB301_318.out _; (with_reducible repeat (first | refine kn' ?_ _ | refine kd' ?_ | refine ka' ?_ _)); refine blk_far ?_ NB301_318.out _; (with_reducible repeat (first | refine kn' ?_ _ | refine kd' ?_ | refine ka' ?_ _)); exact BK301.out) hb); have n6_ := am' (blk_below (g := gb318) (o := .cells #[.slice Ao34 t314.length co34, .int .i64 t317] 28 (0, 0)) (by (with_reducible repeat (first | refine kn' ?_ _ | refine kd' ?_ | refine ka' ?_ _)); refine blk_put (cs := #[.slice Ao34 t314.length co34, .int .i64 0]) ?_ 1 _ rfl; (with_reducible repeat (first | refine kn' ?_ _ | refine kd' ?_ | refine ka' ?_ _)); refine blk_put (cs := #[.slice none 0 0, .int .i64 0]) ?_ 0 _ rfl; (with_reducible repeat (first | refine kn' ?_ _ | refine kd' ?_ | refine ka' ?_ _)); exact BK318.out) hb); have n7_ := am' (below_step (by repeat (first | (with_reducible first | exact HB.out | apply ba' | apply bd' | apply be' | refine bs' ?_ GE300.out | refine bs' ?_ GE301.out | refine bs' ?_ GE318.out) | exact HB.out)) hb); clear HO306; clear HO310; clear HO316; clear BK300; clear BK301; clear BK318; clear HB; have HO306 := n0_; have HO310 := n1_; have HO316 := n2_; have HO321 := n3_; have BK300 := n4_; have BK301 := n5_; have BK318 := n6_; have HB := n7_; clear n0_ n1_ n2_ n3_ n4_ n5_ n6_ n7_; (try clear hb); (try clear hb2); (try clear hk); (try clear hi); (try clear ho0)) | ((with_reducible refine gate_dst (N := 9) rfl ?_); refine box_event ?hg (N := 9) ?hd (cs := #[.slice none 0 0, .bool false]) (t := 44) ?hr ?_; (case hd => rfl); (case hg => rfl); (case hr => first | (go_simp; done) | (go_simp; rfl)); intro gb323 hg w40 hbox hb; have n0_ := am' (Kd.R_below (by (with_reducible repeat (first | apply ra' | apply rn' | apply rw')); exact HO306.out) hb); have n1_ := am' (Kd.R_below (by (with_reducible repeat (first | apply ra' | apply rn' | apply rw')); exact HO310.out) hb); have n2_ := am' (Kd.R_below (by (with_reducible repeat (first | apply ra' | apply rn' | apply rw')); exact HO316.out) hb); have n3_ := am' (Kd.R_below (by (with_reducible repeat (first | apply ra' | apply rn' | apply rw')); exact HO321.out) hb); have n4_ := am' (blk_below (g := gb300) (o := .cells #[.slice A0_0 l0_0.length c0_0, .int .i64 a0_1] 24 (0, 0)) (by (with_reducible repeat (first | refine kn' ?_ _ | refine kd' ?_ | refine ka' ?_ _)); exact BK300.out) hb); have n5_ := am' (blk_below (g := gb301) (o := .cells #[.slice A1_0 l1_0.length c1_0, .bool a1_1] 41 (0, 0)) (by (with_reducible repeat (first | refine kn' ?_ _ | refine kd' ?_ | refine ka' ?_ _)); exact BK301.out) hb); have n6_ := am' (blk_below (g := gb318) (o := .cells #[.slice Ao34 t314.length co34, .int .i64 t317] 28 (0, 0)) (by (with_reducible repeat (first | refine kn' ?_ _ | refine kd' ?_ | refine ka' ?_ _)); exact BK318.out) hb); have n7_ := am' (below_step (by repeat (first | (with_reducible first | exact HB.out | apply ba' | apply bd' | apply be' | refine bs' ?_ GE300.out | refine bs' ?_ GE301.out | refine bs' ?_ GE318.out) | exact HB.out)) hb); have n8_ := am' (hbox); have n9_ := am' ((by rw [hg]; exact (below_size (by repeat (first | (with_reducible first | exact HB.out | apply ba' | apply bd' | apply be' | refine bs' ?_ GE300.out | refine bs' ?_ GE301.out | refine bs' ?_ GE318.out) | exact HB.out))) : w.heap.size ≤ gb323)); have n10_ := am' ((by rw [hg]; exact (below_size (by repeat (first | (with_reducible first | exact HB.out | apply ba' | apply bd' | apply be' | refine bs' ?_ GE300.out | refine bs' ?_ GE301.out | refine bs' ?_ GE318.out) | exact HB.out))) : w.heap.size ≤ gb323)); have n11_ := am' ((by rw [hg]; exact Nat.ne_of_lt (blk_lt (g := gb300) (o := .cells #[.slice A0_0 l0_0.length c0_0, .int .i64 a0_1] 24 (0, 0)) (by (with_reducible repeat (first | refine kn' ?_ _ | refine kd' ?_ | refine ka' ?_ _)); exact BK300.out)) : gb300 ≠ gb323)); have n12_ := am' ((by rw [hg]; exact Nat.ne_of_gt (blk_lt (g := gb300) (o := .cells #[.slice A0_0 l0_0.length c0_0, .int .i64 a0_1] 24 (0, 0)) (by (with_reducible repeat (first | refine kn' ?_ _ | refine kd' ?_ | refine ka' ?_ _)); exact BK300.out)) : gb323 ≠ gb300)); have n13_ := am' ((by rw [hg]; exact Nat.ne_of_lt (blk_lt (g := gb301) (o := .cells #[.slice A1_0 l1_0.length c1_0, .bool a1_1] 41 (0, 0)) (by (with_reducible repeat (first | refine kn' ?_ _ | refine kd' ?_ | refine ka' ?_ _)); exact BK301.out)) : gb301 ≠ gb323)); have n14_ := am' ((by rw [hg]; exact Nat.ne_of_gt (blk_lt (g := gb301) (o := .cells #[.slice A1_0 l1_0.length c1_0, .bool a1_1] 41 (0, 0)) (by (with_reducible repeat (first | refine kn' ?_ _ | refine kd' ?_ | refine ka' ?_ _)); exact BK301.out)) : gb323 ≠ gb301)); have n15_ := am' ((by rw [hg]; exact Nat.ne_of_lt (blk_lt (g := gb318) (o := .cells #[.slice Ao34 t314.length co34, .int .i64 t317] 28 (0, 0)) (by (with_reducible repeat (first | refine kn' ?_ _ | refine kd' ?_ | refine ka' ?_ _)); exact BK318.out)) : gb318 ≠ gb323)); have n16_ := am' ((by rw [hg]; exact Nat.ne_of_gt (blk_lt (g := gb318) (o := .cells #[.slice Ao34 t314.length co34, .int .i64 t317] 28 (0, 0)) (by (with_reducible repeat (first | refine kn' ?_ _ | refine kd' ?_ | refine ka' ?_ _)); exact BK318.out)) : gb323 ≠ gb318)); clear HO306; clear HO310; clear HO316; clear HO321; clear BK300; clear BK301; clear BK318; clear HB; have HO306 := n0_; have HO310 := n1_; have HO316 := n2_; have HO321 := n3_; have BK300 := n4_; have BK301 := n5_; have BK318 := n6_; have HB := n7_; have BK323 := n8_; have GW323 := n9_; have GE323 := n10_; have NB300_323 := n11_; have NB323_300 := n12_; have NB301_323 := n13_; have NB323_301 := n14_; have NB318_323 := n15_; have NB323_318 := n16_; clear n0_ n1_ n2_ n3_ n4_ n5_ n6_ n7_ n8_ n9_ n10_ n11_ n12_ n13_ n14_ n15_ n16_; clear hb hbox hg; obtain ⟨Ao41, co41, eo41⟩ := Kd.R_slice HO321.out; subst eo41; have hnb42 := NB323_300.out; have hnc42 := NB300_323.out; have hnb43 := NB323_301.out; have hnc43 := NB301_323.out; have hnb44 := NB323_318.out; have hnc44 := NB318_323.out; have hcz45_0 : w40.cell? ⟨gb323, 0, none⟩ = some (.slice none 0 0) := (blk_cell BK323.out 0).trans rfl; have hcz45_1 : w40.cell? ⟨gb323, 1, none⟩ = some (.bool false) := (blk_cell BK323.out 1).trans rfl; have hfz45_0 := blk_frozen BK323.out 0; have hfz45_1 := blk_frozen BK323.out 1; have hcz46_0 : w40.cell? ⟨gb318, 0, none⟩ = some (.slice Ao34 t314.length co34) := (blk_cell BK318.out 0).trans rfl; have hcz46_1 : w40.cell? ⟨gb318, 1, none⟩ = some (.int .i64 t317) := (blk_cell BK318.out 1).trans rfl; have hfz46_0 := blk_frozen BK318.out 0; have hfz46_1 := blk_frozen BK318.out 1) | ((with_reducible refine gate_callee (f := 38) rfl ?_); refine goesL_ (some 37) rfl rfl Try.func38 (by kernel_rfl) rfl #[.agg #[.slice Ao34 t314.length co34, .int .i64 t317], .agg #[.slice Ao41 t319.length co41, .bool t322]] rfl (by (try simp only [List.map_toArray, List.map_cons, List.map_nil]); first | done | rfl | (simp only [List.length_drop, List.length_take]; rfl)) ?_; (with_reducible refine (impl_TimeTo.calls kj11 _ _ t314 t317 _ _ t319 t322 t324 t325 _ ?side1 ?side2 ?side3 ?side4 A22.out).mono ?_); (case side1 => refine (Kd.R_reads' (e := 3) (base := w.heap.size) (ok := fun k_ => (((True ∧ ¬ D336_ k_) ∧ some k_ ≠ (.slice Ao27 t304.length co27 : Value).ownBlock) ∧ D337_ k_)) (n := t314.length) (c := co34) ?_).2.2; exact (by (with_reducible repeat (first | apply ra' | apply rn' | apply rw')); exact (Kd.R_mono (Kd.R_far (p := ⟨gb323, 1, none⟩) (Kd.R_far (p := ⟨gb323, 0, none⟩) (Kd.R_types HO316.out BK323.out (by decide)) (fun _ hk => hk.2) (.slice Ao41 t319.length co41)) (fun _ hk => hk.2) (.bool t322)) (fun _ h_ => h_.1)))); (case side2 => exact (Kd.R_reads' HO316.out).2.1); (case side3 => refine (Kd.R_reads' (e := 4) (base := w.heap.size) (ok := fun k_ => ((True ∧ ¬ D337_ k_) ∧ some k_ ≠ (.slice Ao28 t308.length co28 : Value).ownBlock)) (n := t319.length) (c := co41) ?_).2.2; exact (by (with_reducible repeat (first | apply ra' | apply rn' | apply rw')); exact (Kd.R_mono (Kd.R_far (p := ⟨gb323, 1, none⟩) (Kd.R_far (p := ⟨gb323, 0, none⟩) (Kd.R_types HO321.out BK323.out (by decide)) (fun _ hk => hk.2) (.slice Ao41 t319.length co41)) (fun _ hk => hk.2) (.bool t322)) (fun _ h_ => h_.1)))); (case side4 => exact (Kd.R_reads' HO321.out).2.1); rintro e w47 ⟨rfl, hb⟩; refine ⟨_, rfl, ?_⟩; have n0_ := am' (Kd.R_below (by (with_reducible repeat (first | apply ra' | apply rn' | apply rw')); exact (Kd.R_mono (Kd.R_far (p := ⟨gb323, 1, none⟩) (Kd.R_far (p := ⟨gb323, 0, none⟩) (Kd.R_types HO306.out BK323.out (by decide)) (fun _ hk => hk.2) (.slice Ao41 t319.length co41)) (fun _ hk => hk.2) (.bool t322)) (fun _ h_ => h_.1))) hb); have n1_ := am' (Kd.R_below (by (with_reducible repeat (first | apply ra' | apply rn' | apply rw')); exact (Kd.R_mono (Kd.R_far (p := ⟨gb323, 1, none⟩) (Kd.R_far (p := ⟨gb323, 0, none⟩) (Kd.R_types HO310.out BK323.out (by decide)) (fun _ hk => hk.2) (.slice Ao41 t319.length co41)) (fun _ hk => hk.2) (.bool t322)) (fun _ h_ => h_.1))) hb); have n2_ := am' (Kd.R_below (by (with_reducible repeat (first | apply ra' | apply rn' | apply rw')); exact (Kd.R_mono (Kd.R_far (p := ⟨gb323, 1, none⟩) (Kd.R_far (p := ⟨gb323, 0, none⟩) (Kd.R_types HO316.out BK323.out (by decide)) (fun _ hk => hk.2) (.slice Ao41 t319.length co41)) (fun _ hk => hk.2) (.bool t322)) (fun _ h_ => h_.1))) hb); have n3_ := am' (Kd.R_below (by (with_reducible repeat (first | apply ra' | apply rn' | apply rw')); exact (Kd.R_mono (Kd.R_far (p := ⟨gb323, 1, none⟩) (Kd.R_far (p := ⟨gb323, 0, none⟩) (Kd.R_types HO321.out BK323.out (by decide)) (fun _ hk => hk.2) (.slice Ao41 t319.length co41)) (fun _ hk => hk.2) (.bool t322)) (fun _ h_ => h_.1))) hb); have n4_ := am' (blk_below (g := gb300) (o := .cells #[.slice A0_0 l0_0.length c0_0, .int .i64 a0_1] 24 (0, 0)) (by (with_reducible repeat (first | refine kn' ?_ _ | refine kd' ?_ | refine ka' ?_ _)); refine blk_far ?_ NB300_323.out _; (with_reducible repeat (first | refine kn' ?_ _ | refine kd' ?_ | refine ka' ?_ _)); refine blk_far ?_ NB300_323.out _; (with_reducible repeat (first | refine kn' ?_ _ | refine kd' ?_ | refine ka' ?_ _)); exact BK300.out) hb); have n5_ := am' (blk_below (g := gb301) (o := .cells #[.slice A1_0 l1_0.length c1_0, .bool a1_1] 41 (0, 0)) (by (with_reducible repeat (first | refine kn' ?_ _ | refine kd' ?_ | refine ka' ?_ _)); refine blk_far ?_ NB301_323.out _; (with_reducible repeat (first | refine kn' ?_ _ | refine kd' ?_ | refine ka' ?_ _)); refine blk_far ?_ NB301_323.out _; (with_reducible repeat (first | refine kn' ?_ _ | refine kd' ?_ | refine ka' ?_ _)); exact BK301.out) hb); have n6_ := am' (blk_below (g := gb318) (o := .cells #[.slice Ao34 t314.length co34, .int .i64 t317] 28 (0, 0)) (by (with_reducible repeat (first | refine kn' ?_ _ | refine kd' ?_ | refine ka' ?_ _)); refine blk_far ?_ NB318_323.out _; (with_reducible repeat (first | refine kn' ?_ _ | refine kd' ?_ | refine ka' ?_ _)); refine blk_far ?_ NB318_323.out _; (with_reducible repeat (first | refine kn' ?_ _ | refine kd' ?_ | refine ka' ?_ _)); exact BK318.out) hb); have n7_ := am' (blk_below (g := gb323) (o := .cells #[.slice Ao41 t319.length co41, .bool t322] 44 (0, 0)) (by (with_reducible repeat (first | refine kn' ?_ _ | refine kd' ?_ | refine ka' ?_ _)); refine blk_put (cs := #[.slice Ao41 t319.length co41, .bool false]) ?_ 1 _ rfl; (with_reducible repeat (first | refine kn' ?_ _ | refine kd' ?_ | refine ka' ?_ _)); refine blk_put (cs := #[.slice none 0 0, .bool false]) ?_ 0 _ rfl; (with_reducible repeat (first | refine kn' ?_ _ | refine kd' ?_ | refine ka' ?_ _)); exact BK323.out) hb); have n8_ := am' (below_step (by repeat (first | (with_reducible first | exact HB.out | apply ba' | apply bd' | apply be' | refine bs' ?_ GE300.out | refine bs' ?_ GE301.out | refine bs' ?_ GE318.out | refine bs' ?_ GE323.out) | exact HB.out)) hb); clear HO306; clear HO310; clear HO316; clear HO321; clear BK300; clear BK301; clear BK318; clear BK323; clear HB; have HO306 := n0_; have HO310 := n1_; have HO316 := n2_; have HO321 := n3_; have BK300 := n4_; have BK301 := n5_; have BK318 := n6_; have BK323 := n7_; have HB := n8_; clear n0_ n1_ n2_ n3_ n4_ n5_ n6_ n7_ n8_; (try clear hb); (try clear hb2); (try clear hk); (try clear hi)))
     (try simp only [Act.put, sa', sb', sc'])
     go_cut [47] (fun v47 wc => ∃ (kq : Nat) (x47_22 : Bool), v47 = .bool x47_22 ∧ Aside0 (laws_FnExactTimeTo.j2 kq x47_22 l0_0 a0_1 l1_0 a1_1 t314 t317 t319 t322 = some r) ∧ Aside0 (kq ≤ kj11) ∧ Aside0 (Kd.R (Kd.int .i64) 3 wc w.heap.size (fun k_ => ¬ D336_ k_ ∧ D337_ k_) (.slice Ao34 t314.length co34) t314) ∧ Aside0 (Kd.R Kd.bool 4 wc w.heap.size (fun k_ => ¬ D337_ k_) (.slice Ao41 t319.length co41) t319) ∧ Aside0 (wc.heap[gb300]? = some (.cells #[(.slice A0_0 l0_0.length c0_0), .int .i64 a0_1] 24 (0, 0))) ∧ Aside0 (wc.heap[gb301]? = some (.cells #[(.slice A1_0 l1_0.length c1_0), .bool a1_1] 41 (0, 0))) ∧ Aside0 (wc.heap[gb318]? = some (.cells #[(.slice Ao34 t314.length co34), .int .i64 t317] 28 (0, 0))) ∧ Aside0 (wc.heap[gb323]? = some (.cells #[(.slice Ao41 t319.length co41), .bool t322] 44 (0, 0))) ∧ Aside0 (Below w.heap.size w wc))
     case first =>
      have H := HC23.out
      clear HC23; by_cases c48 : t324 = t312
      ·
       rw [if_pos c48] at H; have c48b0 : (t324 == t312) = true := beq_iff_eq.mpr c48
       have c48b1 : (t324 != t312) = false := bne_eq_false_iff_eq.mpr c48
       clear c48; (first | rw [c48b0] | (simp only [i64_w, i32_w]; rw [c48b0]) | skip)
       have H' := am' H
       clear H; go_wp2
       go_meet
       case rel => exact ⟨_, ((t325 != t313)), (by first | rfl | (simp; done) | (simp [*]; done)), H', ⟨by have := HJ3.out; have := HJ11.out; first | omega | exact Nat.le_refl _⟩, ⟨by (with_reducible repeat (first | apply ra' | apply rn' | apply rw')); exact Kd.R_mono HO316.out (fun _ hk => ⟨hk.1.1.2, hk.2⟩)⟩, ⟨by (with_reducible repeat (first | apply ra' | apply rn' | apply rw')); exact Kd.R_mono HO321.out (fun _ hk => hk.1.2)⟩, ⟨by (with_reducible repeat (first | refine kn' ?_ _ | refine kd' ?_ | refine ka' ?_ _)); exact BK300.out⟩, ⟨by (with_reducible repeat (first | refine kn' ?_ _ | refine kd' ?_ | refine ka' ?_ _)); exact BK301.out⟩, ⟨by (with_reducible repeat (first | refine kn' ?_ _ | refine kd' ?_ | refine ka' ?_ _)); exact BK318.out⟩, ⟨by (with_reducible repeat (first | refine kn' ?_ _ | refine kd' ?_ | refine ka' ?_ _)); exact BK323.out⟩, ⟨by repeat (first | (with_reducible first | exact HB.out | apply ba' | apply bd' | apply be' | refine bs' ?_ GE300.out | refine bs' ?_ GE301.out | refine bs' ?_ GE318.out | refine bs' ?_ GE323.out) | exact HB.out)⟩⟩
      ·
       rw [if_neg c48] at H; have c48b0 : (t324 == t312) = false := beq_eq_false_iff_ne.mpr c48
       have c48b1 : (t324 != t312) = true := bne_iff_ne.mpr c48
       (first | rw [c48b0] | (simp only [i64_w, i32_w]; rw [c48b0]) | skip)
       have H' := am' H
       clear H; go_wp2
       go_meet
       case rel => exact ⟨_, (true), (by first | rfl | (simp; done) | (simp [*]; done)), H', ⟨by have := HJ3.out; have := HJ11.out; first | omega | exact Nat.le_refl _⟩, ⟨by (with_reducible repeat (first | apply ra' | apply rn' | apply rw')); exact Kd.R_mono HO316.out (fun _ hk => ⟨hk.1.1.2, hk.2⟩)⟩, ⟨by (with_reducible repeat (first | apply ra' | apply rn' | apply rw')); exact Kd.R_mono HO321.out (fun _ hk => hk.1.2)⟩, ⟨by (with_reducible repeat (first | refine kn' ?_ _ | refine kd' ?_ | refine ka' ?_ _)); exact BK300.out⟩, ⟨by (with_reducible repeat (first | refine kn' ?_ _ | refine kd' ?_ | refine ka' ?_ _)); exact BK301.out⟩, ⟨by (with_reducible repeat (first | refine kn' ?_ _ | refine kd' ?_ | refine ka' ?_ _)); exact BK318.out⟩, ⟨by (with_reducible repeat (first | refine kn' ?_ _ | refine kd' ?_ | refine ka' ?_ _)); exact BK323.out⟩, ⟨by repeat (first | (with_reducible first | exact HB.out | apply ba' | apply bd' | apply be' | refine bs' ?_ GE300.out | refine bs' ?_ GE301.out | refine bs' ?_ GE318.out | refine bs' ?_ GE323.out) | exact HB.out)⟩⟩
     case rest =>
      clear HC23; try clear c1
      try clear p2
      try clear c3
      try clear c4
      try clear c7
      try clear c9
      try clear c10
      try clear c10b0
      try clear c13
      try clear c16
      try clear c16b0
      try clear c18
      try clear c30
      try clear c35
      try clear c36
      try clear c37
      try clear c38
      try clear c42
      try clear c43
      try clear c44
      try clear c48
      try clear c48b0
      try clear c48b1
      try clear hcz14_0
      try clear hcz14_1
      try clear hcz31_0
      try clear hcz31_1
      try clear hcz37_0
      try clear hcz37_1
      try clear hcz38_0
      try clear hcz38_1
      try clear hcz45_0
      try clear hcz45_1
      try clear hcz46_0
      try clear hcz46_1
      try clear hcz8_0
      try clear hcz8_1
      try clear hfz14_0
      try clear hfz14_1
      try clear hfz31_0
      try clear hfz31_1
      try clear hfz37_0
      try clear hfz37_1
      try clear hfz38_0
      try clear hfz38_1
      try clear hfz45_0
      try clear hfz45_1
      try clear hfz46_0
      try clear hfz46_1
      try clear hfz8_0
      try clear hfz8_1
      try clear p2
      obtain ⟨kq, x47_22, rfl, HA, HJ22, HO_319000, HO_324000, BK300, BK301, BK318, BK323, HB⟩ := hcut
      cases kq with
      | zero => exact absurd HA.out (by simp [laws_FnExactTimeTo.j2])
      | succ kj22 =>
       have H := HA.out
       clear HA; simp only [laws_FnExactTimeTo.j2] at H
       have HC49 := am' H
       clear H; go_upto_if 47 with (fail)
       go_cut [] (fun wc => ∃ (kq : Nat), Aside0 (laws_FnExactTimeTo.j3 kq l0_0 a0_1 l1_0 a1_1 t314 t317 t319 t322 = some r) ∧ Aside0 (kq ≤ kj22) ∧ Aside0 (Kd.R (Kd.int .i64) 3 wc w.heap.size (fun k_ => ¬ D336_ k_ ∧ D337_ k_) (.slice Ao34 t314.length co34) t314) ∧ Aside0 (Kd.R Kd.bool 4 wc w.heap.size (fun k_ => ¬ D337_ k_) (.slice Ao41 t319.length co41) t319) ∧ Aside0 (wc.heap[gb300]? = some (.cells #[(.slice A0_0 l0_0.length c0_0), .int .i64 a0_1] 24 (0, 0))) ∧ Aside0 (wc.heap[gb301]? = some (.cells #[(.slice A1_0 l1_0.length c1_0), .bool a1_1] 41 (0, 0))) ∧ Aside0 (wc.heap[gb318]? = some (.cells #[(.slice Ao34 t314.length co34), .int .i64 t317] 28 (0, 0))) ∧ Aside0 (wc.heap[gb323]? = some (.cells #[(.slice Ao41 t319.length co41), .bool t322] 44 (0, 0))) ∧ Aside0 (Below w.heap.size w wc))
       case first =>
        have H := HC49.out
        clear HC49; by_cases c50 : x47_22 = true
        ·
         subst c50; have H1 : (some false) = some r := by rw [if_pos rfl] at H; exact H
         clear H; have H := H1; clear H1; obtain rfl := Option.some.inj H
         go_wp2
         go_ret
         exact ⟨by first | rfl | (simp [errW_none, errW_some] <;> rfl) | (simp [*, errW_none, errW_some] <;> rfl), by repeat (first | (with_reducible first | exact HB.out | apply ba' | apply bd' | apply be' | refine bs' ?_ GE300.out | refine bs' ?_ GE301.out | refine bs' ?_ GE318.out | refine bs' ?_ GE323.out) | exact HB.out)⟩
        ·
         replace c50 := Bool.eq_false_iff.mpr c50
         subst c50; have H1 : (laws_FnExactTimeTo.j3 kj22 l0_0 a0_1 l1_0 a1_1 t314 t317 t319 t322) = some r := by rw [if_neg (show ¬ (false = true) by decide)] at H; exact H
         clear H; have H := H1; clear H1; have H' := am' H
         clear H; go_wp2
         go_meet
         case rel => exact ⟨_, H', ⟨by have := HJ3.out; have := HJ11.out; have := HJ22.out; first | omega | exact Nat.le_refl _⟩, ⟨by (with_reducible repeat (first | apply ra' | apply rn' | apply rw')); exact HO_319000.out⟩, ⟨by (with_reducible repeat (first | apply ra' | apply rn' | apply rw')); exact HO_324000.out⟩, ⟨by (with_reducible repeat (first | refine kn' ?_ _ | refine kd' ?_ | refine ka' ?_ _)); exact BK300.out⟩, ⟨by (with_reducible repeat (first | refine kn' ?_ _ | refine kd' ?_ | refine ka' ?_ _)); exact BK301.out⟩, ⟨by (with_reducible repeat (first | refine kn' ?_ _ | refine kd' ?_ | refine ka' ?_ _)); exact BK318.out⟩, ⟨by (with_reducible repeat (first | refine kn' ?_ _ | refine kd' ?_ | refine ka' ?_ _)); exact BK323.out⟩, ⟨by repeat (first | (with_reducible first | exact HB.out | apply ba' | apply bd' | apply be' | refine bs' ?_ GE300.out | refine bs' ?_ GE301.out | refine bs' ?_ GE318.out | refine bs' ?_ GE323.out) | exact HB.out)⟩⟩
       case rest =>
        clear HC49; try clear c1
        try clear p2
        try clear c3
        try clear c4
        try clear c5
        try clear c7
        try clear c9
        try clear c10
        try clear c10b0
        try clear c13
        try clear c16
        try clear c16b0
        try clear c18
        try clear c30
        try clear c35
        try clear c36
        try clear c37
        try clear c38
        try clear c42
        try clear c43
        try clear c44
        try clear c48
        try clear c48b0
        try clear c48b1
        try clear c50
        try clear hcz14_0
        try clear hcz14_1
        try clear hcz31_0
        try clear hcz31_1
        try clear hcz37_0
        try clear hcz37_1
        try clear hcz38_0
        try clear hcz38_1
        try clear hcz45_0
        try clear hcz45_1
        try clear hcz46_0
        try clear hcz46_1
        try clear hcz8_0
        try clear hcz8_1
        try clear hfz14_0
        try clear hfz14_1
        try clear hfz31_0
        try clear hfz31_1
        try clear hfz37_0
        try clear hfz37_1
        try clear hfz38_0
        try clear hfz38_1
        try clear hfz45_0
        try clear hfz45_1
        try clear hfz46_0
        try clear hfz46_1
        try clear hfz8_0
        try clear hfz8_1
        try clear p2
        obtain ⟨kq, HA, HJ48, HO_319000, HO_324000, BK300, BK301, BK318, BK323, HB⟩ := hcut
        cases kq with
        | zero => exact absurd HA.out (by simp [laws_FnExactTimeTo.j3])
        | succ kj48 =>
         have H := HA.out
         clear HA; simp only [laws_FnExactTimeTo.j3] at H
         replace H := Option.bind_eq_some_iff.mp H
         obtain ⟨⟨t326, t329⟩, A510, H⟩ := H
         replace H : ((laws_eqParty.f kj48 t314 t317 t326 t329).bind fun t330 => (if t330 = true then (laws_FnExactTimeTo.j4 kj48 l1_0 a1_1 t319 t322) else (some false))) = some r := H
         have A51 := am' A510
         clear A510; replace H := Option.bind_eq_some_iff.mp H
         obtain ⟨t330, A520, H⟩ := H
         replace H : (if t330 = true then (laws_FnExactTimeTo.j4 kj48 l1_0 a1_1 t319 t322) else (some false)) = some r := H
         have A52 := am' A520
         clear A520; have HC53 := am' H
         clear H; try go_wp2
         have n0_ := am' (rw' HO_319000.out)
         have n1_ := am' (rw' HO_324000.out)
         have n2_ := am' (kd' BK300.out)
         have n3_ := am' (kd' BK301.out)
         have n4_ := am' (kd' BK318.out)
         have n5_ := am' (kd' BK323.out)
         have n6_ := am' (be' HB.out)
         clear HO_319000; clear HO_324000; clear BK300; clear BK301; clear BK318; clear BK323; clear HB; have HO_319000 := n0_; have HO_324000 := n1_; have BK300 := n2_; have BK301 := n3_; have BK318 := n4_; have BK323 := n5_; have HB := n6_; clear n0_ n1_ n2_ n3_ n4_ n5_ n6_; refine start_ (n := 5) (S := fun w' => w'.cell? ⟨gb318, 0, none⟩ = some (.slice Ao34 t314.length co34) ∧ w'.cell? ⟨gb318, 1, none⟩ = some (.int .i64 t317) ∧ w'.cell? ⟨gb300, 0, none⟩ = some (.slice A0_0 l0_0.length c0_0) ∧ w'.cell? ⟨gb300, 1, none⟩ = some (.int .i64 a0_1)) (ds := []) #[false, false, false, false, false] (by kernel_rfl) rfl rfl ⟨(blk_cell BK318.out 0).trans rfl, (blk_cell BK318.out 1).trans rfl, (blk_cell BK300.out 0).trans rfl, (blk_cell BK300.out 1).trans rfl⟩ (fun hHeld => ?_)
         generalize wc.drew = w54 at HO_319000 HO_324000 BK300 BK301 BK318 BK323 HB hHeld ⊢
         refine take_ (i := 0) (N := some 48) (v := ?_) (a' := ?_) #[true, false, false, false, false] rfl rfl (by kernel_rfl) (fun _ _ _ h => h) (Or.inl ⟨by rfl, ?_⟩) hHeld ?_ ?_
         rotate_left
         ·
          rintro w' ⟨s0, s1, s2, s3⟩
          go_simp; with_reducible rfl
         rotate_left
         ·
          simp only [Act.put, sa', sb', sc', i64_w, i32_w]
          rfl
         refine take_ (i := 1) (N := some 49) (v := ?_) (a' := ?_) #[true, true, false, false, false] rfl rfl (by kernel_rfl) (fun _ _ _ h => h) (Or.inl ⟨by rfl, ?_⟩) hHeld ?_ ?_
         rotate_left
         ·
          rintro w' ⟨s0, s1, s2, s3⟩
          go_simp; with_reducible rfl
         rotate_left
         ·
          simp only [Act.put, sa', sb', sc', i64_w, i32_w]
          rfl
         refine one_ (i := 2) (N := some 50) #[true, true, true, false, false] rfl rfl (by kernel_rfl) (by decide) (fun K hK => ?_)
         refine goes_ Try.func18 (by kernel_rfl) rfl #[.agg #[.slice A0_0 l0_0.length c0_0, .int .i64 a0_1]] (by rfl) rfl rfl (by (try simp only [List.map_toArray, List.map_cons, List.map_nil]); first | done | rfl | (simp only [List.length_drop, List.length_take]; rfl)) ?_
         with_reducible refine (laws_toParty.calls kj48 _ _ l0_0 a0_1 t326 t329 _ ?side1 ?side2 A51.out).mono ?_
         (case side1 => repeat (first | exact (Kd.C_below HR0_0.out HB.out) | (with_reducible refine ca' ?_ _) | (with_reducible refine cn' ?_ _) | (with_reducible refine cd' ?_)))
         (case side2 => exact HC0_0.out)
         rintro e w55 ⟨v327, rfl, ho0, hb⟩
         refine ⟨_, rfl, ?_⟩
         have n0_ := am' (Kd.R_elder' (by (with_reducible repeat (first | apply ra' | apply rn' | apply rw')); exact HO_319000.out) (Kd.R_base ho0) hb)
         have n1_ := am' (Kd.R_below (by (with_reducible repeat (first | apply ra' | apply rn' | apply rw')); exact HO_324000.out) hb)
         have n2_ := am' (Kd.R_lower (Kd.R_new' ho0 (Kd.R_lt (by (with_reducible repeat (first | apply ra' | apply rn' | apply rw')); exact HO_319000.out))) (below_size (by repeat (first | (with_reducible first | exact HB.out | apply ba' | apply bd' | apply be' | refine bs' ?_ GE300.out | refine bs' ?_ GE301.out | refine bs' ?_ GE318.out | refine bs' ?_ GE323.out) | exact HB.out))))
         have n3_ := am' (blk_below (g := gb300) (o := .cells #[.slice A0_0 l0_0.length c0_0, .int .i64 a0_1] 24 (0, 0)) (by (with_reducible repeat (first | refine kn' ?_ _ | refine kd' ?_ | refine ka' ?_ _)); exact BK300.out) hb)
         have n4_ := am' (blk_below (g := gb301) (o := .cells #[.slice A1_0 l1_0.length c1_0, .bool a1_1] 41 (0, 0)) (by (with_reducible repeat (first | refine kn' ?_ _ | refine kd' ?_ | refine ka' ?_ _)); exact BK301.out) hb)
         have n5_ := am' (blk_below (g := gb318) (o := .cells #[.slice Ao34 t314.length co34, .int .i64 t317] 28 (0, 0)) (by (with_reducible repeat (first | refine kn' ?_ _ | refine kd' ?_ | refine ka' ?_ _)); exact BK318.out) hb)
         have n6_ := am' (blk_below (g := gb323) (o := .cells #[.slice Ao41 t319.length co41, .bool t322] 44 (0, 0)) (by (with_reducible repeat (first | refine kn' ?_ _ | refine kd' ?_ | refine ka' ?_ _)); exact BK323.out) hb)
         have n7_ := am' (below_step (by repeat (first | (with_reducible first | exact HB.out | apply ba' | apply bd' | apply be' | refine bs' ?_ GE300.out | refine bs' ?_ GE301.out | refine bs' ?_ GE318.out | refine bs' ?_ GE323.out) | exact HB.out)) hb)
         clear HO_319000; clear HO_324000; clear BK300; clear BK301; clear BK318; clear BK323; clear HB; have HO_319000 := n0_; have HO_324000 := n1_; have HO328 := n2_; have BK300 := n3_; have BK301 := n4_; have BK318 := n5_; have BK323 := n6_; have HB := n7_; clear n0_ n1_ n2_ n3_ n4_ n5_ n6_ n7_; (try clear hb)
         (try clear hb2)
         (try clear hk)
         (try clear hi)
         (try clear ho0)
         obtain ⟨Ao56, co56, eo56⟩ := Kd.R_slice HO328.out
         (first | subst eo56 | (injection eo56 with f1_ f2_ f3_; have f4_ := f1_.symm; have f5_ := f3_.symm; clear f1_ f2_ f3_; subst f4_; subst f5_))
         refine hK.out _ _ ⟨(blk_cell BK318.out 0).trans rfl, (blk_cell BK318.out 1).trans rfl, (blk_cell BK300.out 0).trans rfl, (blk_cell BK300.out 1).trans rfl⟩ (fun hHeld => ?_)
         clear hK K; refine norm_ (a' := ?_) ?_ ?_
         rotate_left
         ·
          show Act.put _ (some 50) _ = _
          simp only [Act.put, sa', sb', sc', i64_w, i32_w]
          rfl
         refine one_ (i := 3) (N := some 51) #[true, true, true, true, false] rfl rfl (by kernel_rfl) (by decide) (fun K hK => ?_)
         refine goes_ Try.func20 (by kernel_rfl) rfl #[.agg #[.slice Ao34 t314.length co34, .int .i64 t317], .agg #[.slice Ao56 t326.length co56, .int .i64 t329]] (by rfl) rfl rfl (by (try simp only [List.map_toArray, List.map_cons, List.map_nil]); first | done | rfl | (simp only [List.length_drop, List.length_take]; rfl)) ?_
         with_reducible refine (laws_eqParty.calls kj48 _ _ t314 t317 _ _ t326 t329 t330 _ ?side1 ?side2 ?side3 ?side4 A52.out).mono ?_
         (case side1 => repeat (first | exact (Kd.R_reads' HO_319000.out).2.2 | (with_reducible refine ca' ?_ _) | (with_reducible refine cn' ?_ _) | (with_reducible refine cd' ?_)))
         (case side2 => exact (Kd.R_reads' HO_319000.out).2.1)
         (case side3 => repeat (first | exact (Kd.R_reads' HO328.out).2.2 | (with_reducible refine ca' ?_ _) | (with_reducible refine cn' ?_ _) | (with_reducible refine cd' ?_)))
         (case side4 => exact (Kd.R_reads' HO328.out).2.1)
         rintro e w57 ⟨rfl, hb⟩
         refine ⟨_, rfl, ?_⟩
         have n0_ := am' (Kd.R_below (by (with_reducible repeat (first | apply ra' | apply rn' | apply rw')); exact HO_319000.out) hb)
         have n1_ := am' (Kd.R_below (by (with_reducible repeat (first | apply ra' | apply rn' | apply rw')); exact HO_324000.out) hb)
         have n2_ := am' (Kd.R_below (by (with_reducible repeat (first | apply ra' | apply rn' | apply rw')); exact HO328.out) hb)
         have n3_ := am' (blk_below (g := gb300) (o := .cells #[.slice A0_0 l0_0.length c0_0, .int .i64 a0_1] 24 (0, 0)) (by (with_reducible repeat (first | refine kn' ?_ _ | refine kd' ?_ | refine ka' ?_ _)); exact BK300.out) hb)
         have n4_ := am' (blk_below (g := gb301) (o := .cells #[.slice A1_0 l1_0.length c1_0, .bool a1_1] 41 (0, 0)) (by (with_reducible repeat (first | refine kn' ?_ _ | refine kd' ?_ | refine ka' ?_ _)); exact BK301.out) hb)
         have n5_ := am' (blk_below (g := gb318) (o := .cells #[.slice Ao34 t314.length co34, .int .i64 t317] 28 (0, 0)) (by (with_reducible repeat (first | refine kn' ?_ _ | refine kd' ?_ | refine ka' ?_ _)); exact BK318.out) hb)
         have n6_ := am' (blk_below (g := gb323) (o := .cells #[.slice Ao41 t319.length co41, .bool t322] 44 (0, 0)) (by (with_reducible repeat (first | refine kn' ?_ _ | refine kd' ?_ | refine ka' ?_ _)); exact BK323.out) hb)
         have n7_ := am' (below_step (by repeat (first | (with_reducible first | exact HB.out | apply ba' | apply bd' | apply be' | refine bs' ?_ GE300.out | refine bs' ?_ GE301.out | refine bs' ?_ GE318.out | refine bs' ?_ GE323.out) | exact HB.out)) hb)
         clear HO_319000; clear HO_324000; clear HO328; clear BK300; clear BK301; clear BK318; clear BK323; clear HB; have HO_319000 := n0_; have HO_324000 := n1_; have HO328 := n2_; have BK300 := n3_; have BK301 := n4_; have BK318 := n5_; have BK323 := n6_; have HB := n7_; clear n0_ n1_ n2_ n3_ n4_ n5_ n6_ n7_; (try clear hb)
         (try clear hb2)
         (try clear hk)
         (try clear hi)
         refine hK.out _ _ ⟨(blk_cell BK318.out 0).trans rfl, (blk_cell BK318.out 1).trans rfl, (blk_cell BK300.out 0).trans rfl, (blk_cell BK300.out 1).trans rfl⟩ (fun hHeld => ?_)
         clear hK K; refine norm_ (a' := ?_) ?_ ?_
         rotate_left
         ·
          show Act.put _ (some 51) _ = _
          simp only [Act.put, sa', sb', sc', i64_w, i32_w]
          rfl
         refine pure_ (i := 4) (N := some 52) (v := ?_) (a' := ?_) #[true, true, true, true, true] rfl rfl (by kernel_rfl) (fun _ _ _ h => h) (Or.inl ⟨by rfl, ?_⟩) ?_ ?_
         rotate_left
         ·
          intro w'; go_simp; with_reducible rfl
         rotate_left
         ·
          simp only [Act.put, sa', sb', sc', i64_w, i32_w]
          rfl
         refine done_ (by kernel_rfl) ?_
         go_upto_if 52 with (fail)
         go_cut [] (fun wc => ∃ (kq : Nat), Aside0 (laws_FnExactTimeTo.j4 kq l1_0 a1_1 t319 t322 = some r) ∧ Aside0 (kq ≤ kj48) ∧ Aside0 (Kd.R (Kd.int .i64) 3 wc w.heap.size (fun k_ => ¬ D336_ k_ ∧ D337_ k_) (.slice Ao34 t314.length co34) t314) ∧ Aside0 (Kd.R Kd.bool 4 wc w.heap.size (fun k_ => ¬ D337_ k_) (.slice Ao41 t319.length co41) t319) ∧ Aside0 (wc.heap[gb300]? = some (.cells #[(.slice A0_0 l0_0.length c0_0), .int .i64 a0_1] 24 (0, 0))) ∧ Aside0 (wc.heap[gb301]? = some (.cells #[(.slice A1_0 l1_0.length c1_0), .bool a1_1] 41 (0, 0))) ∧ Aside0 (wc.heap[gb318]? = some (.cells #[(.slice Ao34 t314.length co34), .int .i64 t317] 28 (0, 0))) ∧ Aside0 (wc.heap[gb323]? = some (.cells #[(.slice Ao41 t319.length co41), .bool t322] 44 (0, 0))) ∧ Aside0 (Below w.heap.size w wc))
         case first =>
          have H := HC53.out
          clear HC53; by_cases c58 : t330 = true
          ·
           subst c58; have H1 : (laws_FnExactTimeTo.j4 kj48 l1_0 a1_1 t319 t322) = some r := by rw [if_pos rfl] at H; exact H
           clear H; have H := H1; clear H1; have H' := am' H
           clear H; go_wp2
           go_meet
           case rel => exact ⟨_, H', ⟨by have := HJ3.out; have := HJ11.out; have := HJ22.out; have := HJ48.out; first | omega | exact Nat.le_refl _⟩, ⟨by (with_reducible repeat (first | apply ra' | apply rn' | apply rw')); exact Kd.R_mono HO_319000.out (fun _ hk => ⟨hk.1.1, hk.1.2⟩)⟩, ⟨by (with_reducible repeat (first | apply ra' | apply rn' | apply rw')); exact HO_324000.out⟩, ⟨by (with_reducible repeat (first | refine kn' ?_ _ | refine kd' ?_ | refine ka' ?_ _)); exact BK300.out⟩, ⟨by (with_reducible repeat (first | refine kn' ?_ _ | refine kd' ?_ | refine ka' ?_ _)); exact BK301.out⟩, ⟨by (with_reducible repeat (first | refine kn' ?_ _ | refine kd' ?_ | refine ka' ?_ _)); exact BK318.out⟩, ⟨by (with_reducible repeat (first | refine kn' ?_ _ | refine kd' ?_ | refine ka' ?_ _)); exact BK323.out⟩, ⟨by repeat (first | (with_reducible first | exact HB.out | apply ba' | apply bd' | apply be' | refine bs' ?_ GE300.out | refine bs' ?_ GE301.out | refine bs' ?_ GE318.out | refine bs' ?_ GE323.out) | exact HB.out)⟩⟩
          ·
           replace c58 := Bool.eq_false_iff.mpr c58
           subst c58; have H1 : (some false) = some r := by rw [if_neg (show ¬ (false = true) by decide)] at H; exact H
           clear H; have H := H1; clear H1; obtain rfl := Option.some.inj H
           go_wp2
           go_ret
           exact ⟨by first | rfl | (simp [errW_none, errW_some] <;> rfl) | (simp [*, errW_none, errW_some] <;> rfl), by repeat (first | (with_reducible first | exact HB.out | apply ba' | apply bd' | apply be' | refine bs' ?_ GE300.out | refine bs' ?_ GE301.out | refine bs' ?_ GE318.out | refine bs' ?_ GE323.out) | exact HB.out)⟩
         case rest =>
          clear HC53; try clear c1
          try clear c2
          try clear p2
          try clear c3
          try clear c4
          try clear c5
          try clear c7
          try clear c9
          try clear c10
          try clear c10b0
          try clear c13
          try clear c16
          try clear c16b0
          try clear c18
          try clear c20
          try clear c30
          try clear c35
          try clear c36
          try clear c37
          try clear c38
          try clear c42
          try clear c43
          try clear c44
          try clear c48
          try clear c48b0
          try clear c48b1
          try clear c50
          try clear c58
          try clear hcz14_0
          try clear hcz14_1
          try clear hcz31_0
          try clear hcz31_1
          try clear hcz37_0
          try clear hcz37_1
          try clear hcz38_0
          try clear hcz38_1
          try clear hcz45_0
          try clear hcz45_1
          try clear hcz46_0
          try clear hcz46_1
          try clear hcz8_0
          try clear hcz8_1
          try clear hfz14_0
          try clear hfz14_1
          try clear hfz31_0
          try clear hfz31_1
          try clear hfz37_0
          try clear hfz37_1
          try clear hfz38_0
          try clear hfz38_1
          try clear hfz45_0
          try clear hfz45_1
          try clear hfz46_0
          try clear hfz46_1
          try clear hfz8_0
          try clear hfz8_1
          try clear p2
          obtain ⟨kq, HA, HJ52, HO_319000, HO_324000, BK300, BK301, BK318, BK323, HB⟩ := hcut
          cases kq with
          | zero => exact absurd HA.out (by simp [laws_FnExactTimeTo.j4])
          | succ kj52 =>
           have H := HA.out
           clear HA; simp only [laws_FnExactTimeTo.j4] at H
           replace H := Option.bind_eq_some_iff.mp H
           obtain ⟨⟨t331, t334⟩, A590, H⟩ := H
           replace H : ((laws_eqState.f kj52 t319 t322 t331 t334).bind fun t335 => (if t335 = true then (some true) else (some false))) = some r := H
           have A59 := am' A590
           clear A590; replace H := Option.bind_eq_some_iff.mp H
           obtain ⟨t335, A600, H⟩ := H
           replace H : (if t335 = true then (some true) else (some false)) = some r := H
           have A60 := am' A600
           clear A600; by_cases c61 : t335 = true
           ·
            subst c61; have H1 : (some true) = some r := by rw [if_pos rfl] at H; exact H
            clear H; have H := H1; clear H1; obtain rfl := Option.some.inj H
            try go_wp2
            have n0_ := am' (rw' HO_319000.out)
            have n1_ := am' (rw' HO_324000.out)
            have n2_ := am' (kd' BK300.out)
            have n3_ := am' (kd' BK301.out)
            have n4_ := am' (kd' BK318.out)
            have n5_ := am' (kd' BK323.out)
            have n6_ := am' (be' HB.out)
            clear HO_319000; clear HO_324000; clear BK300; clear BK301; clear BK318; clear BK323; clear HB; have HO_319000 := n0_; have HO_324000 := n1_; have BK300 := n2_; have BK301 := n3_; have BK318 := n4_; have BK323 := n5_; have HB := n6_; clear n0_ n1_ n2_ n3_ n4_ n5_ n6_; refine start_ (n := 5) (S := fun w' => w'.cell? ⟨gb323, 0, none⟩ = some (.slice Ao41 t319.length co41) ∧ w'.cell? ⟨gb323, 1, none⟩ = some (.bool t322) ∧ w'.cell? ⟨gb301, 0, none⟩ = some (.slice A1_0 l1_0.length c1_0) ∧ w'.cell? ⟨gb301, 1, none⟩ = some (.bool a1_1)) (ds := []) #[false, false, false, false, false] (by kernel_rfl) rfl rfl ⟨(blk_cell BK323.out 0).trans rfl, (blk_cell BK323.out 1).trans rfl, (blk_cell BK301.out 0).trans rfl, (blk_cell BK301.out 1).trans rfl⟩ (fun hHeld => ?_)
            generalize wc.drew = w62 at HO_319000 HO_324000 BK300 BK301 BK318 BK323 HB hHeld ⊢
            refine take_ (i := 0) (N := some 53) (v := ?_) (a' := ?_) #[true, false, false, false, false] rfl rfl (by kernel_rfl) (fun _ _ _ h => h) (Or.inl ⟨by rfl, ?_⟩) hHeld ?_ ?_
            rotate_left
            ·
             rintro w' ⟨s0, s1, s2, s3⟩
             go_simp; with_reducible rfl
            rotate_left
            ·
             simp only [Act.put, sa', sb', sc', i64_w, i32_w]
             rfl
            refine take_ (i := 1) (N := some 54) (v := ?_) (a' := ?_) #[true, true, false, false, false] rfl rfl (by kernel_rfl) (fun _ _ _ h => h) (Or.inl ⟨by rfl, ?_⟩) hHeld ?_ ?_
            rotate_left
            ·
             rintro w' ⟨s0, s1, s2, s3⟩
             go_simp; with_reducible rfl
            rotate_left
            ·
             simp only [Act.put, sa', sb', sc', i64_w, i32_w]
             rfl
            refine one_ (i := 2) (N := some 55) #[true, true, true, false, false] rfl rfl (by kernel_rfl) (by decide) (fun K hK => ?_)
            refine goes_ Try.func37 (by kernel_rfl) rfl #[.agg #[.slice A1_0 l1_0.length c1_0, .bool a1_1]] (by rfl) rfl rfl (by (try simp only [List.map_toArray, List.map_cons, List.map_nil]); first | done | rfl | (simp only [List.length_drop, List.length_take]; rfl)) ?_
            with_reducible refine (laws_toState.calls kj52 _ _ l1_0 a1_1 t331 t334 _ ?side1 ?side2 A59.out).mono ?_
            (case side1 => repeat (first | exact (Kd.C_below HR1_0.out HB.out) | (with_reducible refine ca' ?_ _) | (with_reducible refine cn' ?_ _) | (with_reducible refine cd' ?_)))
            (case side2 => exact HC1_0.out)
            rintro e w63 ⟨v332, rfl, ho0, hb⟩
            refine ⟨_, rfl, ?_⟩
            have n0_ := am' (Kd.R_below (by (with_reducible repeat (first | apply ra' | apply rn' | apply rw')); exact HO_319000.out) hb)
            have n1_ := am' (Kd.R_elder' (by (with_reducible repeat (first | apply ra' | apply rn' | apply rw')); exact HO_324000.out) (Kd.R_base ho0) hb)
            have n2_ := am' (Kd.R_lower (Kd.R_new' ho0 (Kd.R_lt (by (with_reducible repeat (first | apply ra' | apply rn' | apply rw')); exact HO_324000.out))) (below_size (by repeat (first | (with_reducible first | exact HB.out | apply ba' | apply bd' | apply be' | refine bs' ?_ GE300.out | refine bs' ?_ GE301.out | refine bs' ?_ GE318.out | refine bs' ?_ GE323.out) | exact HB.out))))
            have n3_ := am' (blk_below (g := gb300) (o := .cells #[.slice A0_0 l0_0.length c0_0, .int .i64 a0_1] 24 (0, 0)) (by (with_reducible repeat (first | refine kn' ?_ _ | refine kd' ?_ | refine ka' ?_ _)); exact BK300.out) hb)
            have n4_ := am' (blk_below (g := gb301) (o := .cells #[.slice A1_0 l1_0.length c1_0, .bool a1_1] 41 (0, 0)) (by (with_reducible repeat (first | refine kn' ?_ _ | refine kd' ?_ | refine ka' ?_ _)); exact BK301.out) hb)
            have n5_ := am' (blk_below (g := gb318) (o := .cells #[.slice Ao34 t314.length co34, .int .i64 t317] 28 (0, 0)) (by (with_reducible repeat (first | refine kn' ?_ _ | refine kd' ?_ | refine ka' ?_ _)); exact BK318.out) hb)
            have n6_ := am' (blk_below (g := gb323) (o := .cells #[.slice Ao41 t319.length co41, .bool t322] 44 (0, 0)) (by (with_reducible repeat (first | refine kn' ?_ _ | refine kd' ?_ | refine ka' ?_ _)); exact BK323.out) hb)
            have n7_ := am' (below_step (by repeat (first | (with_reducible first | exact HB.out | apply ba' | apply bd' | apply be' | refine bs' ?_ GE300.out | refine bs' ?_ GE301.out | refine bs' ?_ GE318.out | refine bs' ?_ GE323.out) | exact HB.out)) hb)
            clear HO_319000; clear HO_324000; clear BK300; clear BK301; clear BK318; clear BK323; clear HB; have HO_319000 := n0_; have HO_324000 := n1_; have HO333 := n2_; have BK300 := n3_; have BK301 := n4_; have BK318 := n5_; have BK323 := n6_; have HB := n7_; clear n0_ n1_ n2_ n3_ n4_ n5_ n6_ n7_; (try clear hb)
            (try clear hb2)
            (try clear hk)
            (try clear hi)
            (try clear ho0)
            obtain ⟨Ao64, co64, eo64⟩ := Kd.R_slice HO333.out
            (first | subst eo64 | (injection eo64 with f1_ f2_ f3_; have f4_ := f1_.symm; have f5_ := f3_.symm; clear f1_ f2_ f3_; subst f4_; subst f5_))
            refine hK.out _ _ ⟨(blk_cell BK323.out 0).trans rfl, (blk_cell BK323.out 1).trans rfl, (blk_cell BK301.out 0).trans rfl, (blk_cell BK301.out 1).trans rfl⟩ (fun hHeld => ?_)
            clear hK K; refine norm_ (a' := ?_) ?_ ?_
            rotate_left
            ·
             show Act.put _ (some 55) _ = _
             simp only [Act.put, sa', sb', sc', i64_w, i32_w]
             rfl
            refine one_ (i := 3) (N := some 56) #[true, true, true, true, false] rfl rfl (by kernel_rfl) (by decide) (fun K hK => ?_)
            refine goes_ Try.func39 (by kernel_rfl) rfl #[.agg #[.slice Ao41 t319.length co41, .bool t322], .agg #[.slice Ao64 t331.length co64, .bool t334]] (by rfl) rfl rfl (by (try simp only [List.map_toArray, List.map_cons, List.map_nil]); first | done | rfl | (simp only [List.length_drop, List.length_take]; rfl)) ?_
            with_reducible refine (laws_eqState.calls kj52 _ _ t319 t322 _ _ t331 t334 true _ ?side1 ?side2 ?side3 ?side4 A60.out).mono ?_
            (case side1 => repeat (first | exact (Kd.R_reads' HO_324000.out).2.2 | (with_reducible refine ca' ?_ _) | (with_reducible refine cn' ?_ _) | (with_reducible refine cd' ?_)))
            (case side2 => exact (Kd.R_reads' HO_324000.out).2.1)
            (case side3 => repeat (first | exact (Kd.R_reads' HO333.out).2.2 | (with_reducible refine ca' ?_ _) | (with_reducible refine cn' ?_ _) | (with_reducible refine cd' ?_)))
            (case side4 => exact (Kd.R_reads' HO333.out).2.1)
            rintro e w65 ⟨rfl, hb⟩
            refine ⟨_, rfl, ?_⟩
            have n0_ := am' (Kd.R_below (by (with_reducible repeat (first | apply ra' | apply rn' | apply rw')); exact HO_319000.out) hb)
            have n1_ := am' (Kd.R_below (by (with_reducible repeat (first | apply ra' | apply rn' | apply rw')); exact HO_324000.out) hb)
            have n2_ := am' (Kd.R_below (by (with_reducible repeat (first | apply ra' | apply rn' | apply rw')); exact HO333.out) hb)
            have n3_ := am' (blk_below (g := gb300) (o := .cells #[.slice A0_0 l0_0.length c0_0, .int .i64 a0_1] 24 (0, 0)) (by (with_reducible repeat (first | refine kn' ?_ _ | refine kd' ?_ | refine ka' ?_ _)); exact BK300.out) hb)
            have n4_ := am' (blk_below (g := gb301) (o := .cells #[.slice A1_0 l1_0.length c1_0, .bool a1_1] 41 (0, 0)) (by (with_reducible repeat (first | refine kn' ?_ _ | refine kd' ?_ | refine ka' ?_ _)); exact BK301.out) hb)
            have n5_ := am' (blk_below (g := gb318) (o := .cells #[.slice Ao34 t314.length co34, .int .i64 t317] 28 (0, 0)) (by (with_reducible repeat (first | refine kn' ?_ _ | refine kd' ?_ | refine ka' ?_ _)); exact BK318.out) hb)
            have n6_ := am' (blk_below (g := gb323) (o := .cells #[.slice Ao41 t319.length co41, .bool t322] 44 (0, 0)) (by (with_reducible repeat (first | refine kn' ?_ _ | refine kd' ?_ | refine ka' ?_ _)); exact BK323.out) hb)
            have n7_ := am' (below_step (by repeat (first | (with_reducible first | exact HB.out | apply ba' | apply bd' | apply be' | refine bs' ?_ GE300.out | refine bs' ?_ GE301.out | refine bs' ?_ GE318.out | refine bs' ?_ GE323.out) | exact HB.out)) hb)
            clear HO_319000; clear HO_324000; clear HO333; clear BK300; clear BK301; clear BK318; clear BK323; clear HB; have HO_319000 := n0_; have HO_324000 := n1_; have HO333 := n2_; have BK300 := n3_; have BK301 := n4_; have BK318 := n5_; have BK323 := n6_; have HB := n7_; clear n0_ n1_ n2_ n3_ n4_ n5_ n6_ n7_; (try clear hb)
            (try clear hb2)
            (try clear hk)
            (try clear hi)
            refine hK.out _ _ ⟨(blk_cell BK323.out 0).trans rfl, (blk_cell BK323.out 1).trans rfl, (blk_cell BK301.out 0).trans rfl, (blk_cell BK301.out 1).trans rfl⟩ (fun hHeld => ?_)
            clear hK K; refine norm_ (a' := ?_) ?_ ?_
            rotate_left
            ·
             show Act.put _ (some 56) _ = _
             simp only [Act.put, sa', sb', sc', i64_w, i32_w]
             rfl
            refine pure_ (i := 4) (N := some 57) (v := ?_) (a' := ?_) #[true, true, true, true, true] rfl rfl (by kernel_rfl) (fun _ _ _ h => h) (Or.inl ⟨by rfl, ?_⟩) ?_ ?_
            rotate_left
            ·
             intro w'; go_simp; with_reducible rfl
            rotate_left
            ·
             simp only [Act.put, sa', sb', sc', i64_w, i32_w]
             rfl
            refine done_ (by kernel_rfl) ?_
            try go_wp2
            go_ret
            exact ⟨by first | rfl | (simp [errW_none, errW_some] <;> rfl) | (simp [*, errW_none, errW_some] <;> rfl), by repeat (first | (with_reducible first | exact HB.out | apply ba' | apply bd' | apply be' | refine bs' ?_ GE300.out | refine bs' ?_ GE301.out | refine bs' ?_ GE318.out | refine bs' ?_ GE323.out) | exact HB.out)⟩
           ·
            replace c61 := Bool.eq_false_iff.mpr c61
            subst c61; have H1 : (some false) = some r := by rw [if_neg (show ¬ (false = true) by decide)] at H; exact H
            clear H; have H := H1; clear H1; obtain rfl := Option.some.inj H
            try go_wp2
            have n0_ := am' (rw' HO_319000.out)
            have n1_ := am' (rw' HO_324000.out)
            have n2_ := am' (kd' BK300.out)
            have n3_ := am' (kd' BK301.out)
            have n4_ := am' (kd' BK318.out)
            have n5_ := am' (kd' BK323.out)
            have n6_ := am' (be' HB.out)
            clear HO_319000; clear HO_324000; clear BK300; clear BK301; clear BK318; clear BK323; clear HB; have HO_319000 := n0_; have HO_324000 := n1_; have BK300 := n2_; have BK301 := n3_; have BK318 := n4_; have BK323 := n5_; have HB := n6_; clear n0_ n1_ n2_ n3_ n4_ n5_ n6_; refine start_ (n := 5) (S := fun w' => w'.cell? ⟨gb323, 0, none⟩ = some (.slice Ao41 t319.length co41) ∧ w'.cell? ⟨gb323, 1, none⟩ = some (.bool t322) ∧ w'.cell? ⟨gb301, 0, none⟩ = some (.slice A1_0 l1_0.length c1_0) ∧ w'.cell? ⟨gb301, 1, none⟩ = some (.bool a1_1)) (ds := []) #[false, false, false, false, false] (by kernel_rfl) rfl rfl ⟨(blk_cell BK323.out 0).trans rfl, (blk_cell BK323.out 1).trans rfl, (blk_cell BK301.out 0).trans rfl, (blk_cell BK301.out 1).trans rfl⟩ (fun hHeld => ?_)
            generalize wc.drew = w66 at HO_319000 HO_324000 BK300 BK301 BK318 BK323 HB hHeld ⊢
            refine take_ (i := 0) (N := some 53) (v := ?_) (a' := ?_) #[true, false, false, false, false] rfl rfl (by kernel_rfl) (fun _ _ _ h => h) (Or.inl ⟨by rfl, ?_⟩) hHeld ?_ ?_
            rotate_left
            ·
             rintro w' ⟨s0, s1, s2, s3⟩
             go_simp; with_reducible rfl
            rotate_left
            ·
             simp only [Act.put, sa', sb', sc', i64_w, i32_w]
             rfl
            refine take_ (i := 1) (N := some 54) (v := ?_) (a' := ?_) #[true, true, false, false, false] rfl rfl (by kernel_rfl) (fun _ _ _ h => h) (Or.inl ⟨by rfl, ?_⟩) hHeld ?_ ?_
            rotate_left
            ·
             rintro w' ⟨s0, s1, s2, s3⟩
             go_simp; with_reducible rfl
            rotate_left
            ·
             simp only [Act.put, sa', sb', sc', i64_w, i32_w]
             rfl
            refine one_ (i := 2) (N := some 55) #[true, true, true, false, false] rfl rfl (by kernel_rfl) (by decide) (fun K hK => ?_)
            refine goes_ Try.func37 (by kernel_rfl) rfl #[.agg #[.slice A1_0 l1_0.length c1_0, .bool a1_1]] (by rfl) rfl rfl (by (try simp only [List.map_toArray, List.map_cons, List.map_nil]); first | done | rfl | (simp only [List.length_drop, List.length_take]; rfl)) ?_
            with_reducible refine (laws_toState.calls kj52 _ _ l1_0 a1_1 t331 t334 _ ?side1 ?side2 A59.out).mono ?_
            (case side1 => repeat (first | exact (Kd.C_below HR1_0.out HB.out) | (with_reducible refine ca' ?_ _) | (with_reducible refine cn' ?_ _) | (with_reducible refine cd' ?_)))
            (case side2 => exact HC1_0.out)
            rintro e w67 ⟨v332, rfl, ho0, hb⟩
            refine ⟨_, rfl, ?_⟩
            have n0_ := am' (Kd.R_below (by (with_reducible repeat (first | apply ra' | apply rn' | apply rw')); exact HO_319000.out) hb)
            have n1_ := am' (Kd.R_elder' (by (with_reducible repeat (first | apply ra' | apply rn' | apply rw')); exact HO_324000.out) (Kd.R_base ho0) hb)
            have n2_ := am' (Kd.R_lower (Kd.R_new' ho0 (Kd.R_lt (by (with_reducible repeat (first | apply ra' | apply rn' | apply rw')); exact HO_324000.out))) (below_size (by repeat (first | (with_reducible first | exact HB.out | apply ba' | apply bd' | apply be' | refine bs' ?_ GE300.out | refine bs' ?_ GE301.out | refine bs' ?_ GE318.out | refine bs' ?_ GE323.out) | exact HB.out))))
            have n3_ := am' (blk_below (g := gb300) (o := .cells #[.slice A0_0 l0_0.length c0_0, .int .i64 a0_1] 24 (0, 0)) (by (with_reducible repeat (first | refine kn' ?_ _ | refine kd' ?_ | refine ka' ?_ _)); exact BK300.out) hb)
            have n4_ := am' (blk_below (g := gb301) (o := .cells #[.slice A1_0 l1_0.length c1_0, .bool a1_1] 41 (0, 0)) (by (with_reducible repeat (first | refine kn' ?_ _ | refine kd' ?_ | refine ka' ?_ _)); exact BK301.out) hb)
            have n5_ := am' (blk_below (g := gb318) (o := .cells #[.slice Ao34 t314.length co34, .int .i64 t317] 28 (0, 0)) (by (with_reducible repeat (first | refine kn' ?_ _ | refine kd' ?_ | refine ka' ?_ _)); exact BK318.out) hb)
            have n6_ := am' (blk_below (g := gb323) (o := .cells #[.slice Ao41 t319.length co41, .bool t322] 44 (0, 0)) (by (with_reducible repeat (first | refine kn' ?_ _ | refine kd' ?_ | refine ka' ?_ _)); exact BK323.out) hb)
            have n7_ := am' (below_step (by repeat (first | (with_reducible first | exact HB.out | apply ba' | apply bd' | apply be' | refine bs' ?_ GE300.out | refine bs' ?_ GE301.out | refine bs' ?_ GE318.out | refine bs' ?_ GE323.out) | exact HB.out)) hb)
            clear HO_319000; clear HO_324000; clear BK300; clear BK301; clear BK318; clear BK323; clear HB; have HO_319000 := n0_; have HO_324000 := n1_; have HO333 := n2_; have BK300 := n3_; have BK301 := n4_; have BK318 := n5_; have BK323 := n6_; have HB := n7_; clear n0_ n1_ n2_ n3_ n4_ n5_ n6_ n7_; (try clear hb)
            (try clear hb2)
            (try clear hk)
            (try clear hi)
            (try clear ho0)
            obtain ⟨Ao68, co68, eo68⟩ := Kd.R_slice HO333.out
            (first | subst eo68 | (injection eo68 with f1_ f2_ f3_; have f4_ := f1_.symm; have f5_ := f3_.symm; clear f1_ f2_ f3_; subst f4_; subst f5_))
            refine hK.out _ _ ⟨(blk_cell BK323.out 0).trans rfl, (blk_cell BK323.out 1).trans rfl, (blk_cell BK301.out 0).trans rfl, (blk_cell BK301.out 1).trans rfl⟩ (fun hHeld => ?_)
            clear hK K; refine norm_ (a' := ?_) ?_ ?_
            rotate_left
            ·
             show Act.put _ (some 55) _ = _
             simp only [Act.put, sa', sb', sc', i64_w, i32_w]
             rfl
            refine one_ (i := 3) (N := some 56) #[true, true, true, true, false] rfl rfl (by kernel_rfl) (by decide) (fun K hK => ?_)
            refine goes_ Try.func39 (by kernel_rfl) rfl #[.agg #[.slice Ao41 t319.length co41, .bool t322], .agg #[.slice Ao68 t331.length co68, .bool t334]] (by rfl) rfl rfl (by (try simp only [List.map_toArray, List.map_cons, List.map_nil]); first | done | rfl | (simp only [List.length_drop, List.length_take]; rfl)) ?_
            with_reducible refine (laws_eqState.calls kj52 _ _ t319 t322 _ _ t331 t334 false _ ?side1 ?side2 ?side3 ?side4 A60.out).mono ?_
            (case side1 => repeat (first | exact (Kd.R_reads' HO_324000.out).2.2 | (with_reducible refine ca' ?_ _) | (with_reducible refine cn' ?_ _) | (with_reducible refine cd' ?_)))
            (case side2 => exact (Kd.R_reads' HO_324000.out).2.1)
            (case side3 => repeat (first | exact (Kd.R_reads' HO333.out).2.2 | (with_reducible refine ca' ?_ _) | (with_reducible refine cn' ?_ _) | (with_reducible refine cd' ?_)))
            (case side4 => exact (Kd.R_reads' HO333.out).2.1)
            rintro e w69 ⟨rfl, hb⟩
            refine ⟨_, rfl, ?_⟩
            have n0_ := am' (Kd.R_below (by (with_reducible repeat (first | apply ra' | apply rn' | apply rw')); exact HO_319000.out) hb)
            have n1_ := am' (Kd.R_below (by (with_reducible repeat (first | apply ra' | apply rn' | apply rw')); exact HO_324000.out) hb)
            have n2_ := am' (Kd.R_below (by (with_reducible repeat (first | apply ra' | apply rn' | apply rw')); exact HO333.out) hb)
            have n3_ := am' (blk_below (g := gb300) (o := .cells #[.slice A0_0 l0_0.length c0_0, .int .i64 a0_1] 24 (0, 0)) (by (with_reducible repeat (first | refine kn' ?_ _ | refine kd' ?_ | refine ka' ?_ _)); exact BK300.out) hb)
            have n4_ := am' (blk_below (g := gb301) (o := .cells #[.slice A1_0 l1_0.length c1_0, .bool a1_1] 41 (0, 0)) (by (with_reducible repeat (first | refine kn' ?_ _ | refine kd' ?_ | refine ka' ?_ _)); exact BK301.out) hb)
            have n5_ := am' (blk_below (g := gb318) (o := .cells #[.slice Ao34 t314.length co34, .int .i64 t317] 28 (0, 0)) (by (with_reducible repeat (first | refine kn' ?_ _ | refine kd' ?_ | refine ka' ?_ _)); exact BK318.out) hb)
            have n6_ := am' (blk_below (g := gb323) (o := .cells #[.slice Ao41 t319.length co41, .bool t322] 44 (0, 0)) (by (with_reducible repeat (first | refine kn' ?_ _ | refine kd' ?_ | refine ka' ?_ _)); exact BK323.out) hb)
            have n7_ := am' (below_step (by repeat (first | (with_reducible first | exact HB.out | apply ba' | apply bd' | apply be' | refine bs' ?_ GE300.out | refine bs' ?_ GE301.out | refine bs' ?_ GE318.out | refine bs' ?_ GE323.out) | exact HB.out)) hb)
            clear HO_319000; clear HO_324000; clear HO333; clear BK300; clear BK301; clear BK318; clear BK323; clear HB; have HO_319000 := n0_; have HO_324000 := n1_; have HO333 := n2_; have BK300 := n3_; have BK301 := n4_; have BK318 := n5_; have BK323 := n6_; have HB := n7_; clear n0_ n1_ n2_ n3_ n4_ n5_ n6_ n7_; (try clear hb)
            (try clear hb2)
            (try clear hk)
            (try clear hi)
            refine hK.out _ _ ⟨(blk_cell BK323.out 0).trans rfl, (blk_cell BK323.out 1).trans rfl, (blk_cell BK301.out 0).trans rfl, (blk_cell BK301.out 1).trans rfl⟩ (fun hHeld => ?_)
            clear hK K; refine norm_ (a' := ?_) ?_ ?_
            rotate_left
            ·
             show Act.put _ (some 56) _ = _
             simp only [Act.put, sa', sb', sc', i64_w, i32_w]
             rfl
            refine pure_ (i := 4) (N := some 57) (v := ?_) (a' := ?_) #[true, true, true, true, true] rfl rfl (by kernel_rfl) (fun _ _ _ h => h) (Or.inl ⟨by rfl, ?_⟩) ?_ ?_
            rotate_left
            ·
             intro w'; go_simp; with_reducible rfl
            rotate_left
            ·
             simp only [Act.put, sa', sb', sc', i64_w, i32_w]
             rfl
            refine done_ (by kernel_rfl) ?_
            try go_wp2
            go_ret
            exact ⟨by first | rfl | (simp [errW_none, errW_some] <;> rfl) | (simp [*, errW_none, errW_some] <;> rfl), by repeat (first | (with_reducible first | exact HB.out | apply ba' | apply bd' | apply be' | refine bs' ?_ GE300.out | refine bs' ?_ GE301.out | refine bs' ?_ GE318.out | refine bs' ?_ GE323.out) | exact HB.out)⟩
end Go.Proofs.Ytamljjfhkolflaa.C6
