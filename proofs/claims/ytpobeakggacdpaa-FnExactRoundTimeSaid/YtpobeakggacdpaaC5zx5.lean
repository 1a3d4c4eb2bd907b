import Derived.Test.YtpobeakggacdpaaC5zx0
import Derived.Test.YtpobeakggacdpaaC5zx1
import Derived.Test.YtpobeakggacdpaaC5zx2
import Derived.Test.YtpobeakggacdpaaC5zx3
import Derived.Test.YtpobeakggacdpaaC5zx4
import Derived.Test.YtpobeakggacdpaaC5zAl
namespace Go.Proofs.Ytpobeakggacdpaa.C5
open Go.RowKit Go.Proofs.YtpobeakggacdpaaW.PrintWords Go.Proofs.YtpobeakggacdpaaW.PrintLast Go.Proofs.YtpobeakggacdpaaW.PrintMore Go.Proofs.Ytpobeakggacdpaa.H
attribute [local go_sem] max2_int min2_int max_two min_two max_three min_three max_four min_four
set_option linter.unusedVariables false
set_option linter.unusedSimpArgs false
mutual
def laws_FnExactRoundTime.j0 : Nat → List (List Int) → Int → List Int → Int → Int → Option (Bool)
 | 0, _, _, _, _, _ => none
 | k + 1, x1, x5, x182000, x182001, x182002 => (laws_szIntSS.f k x1 x5).bind fun t183 => (if t183 < 0 then (some true) else (laws_FnExactRoundTime.j1 k x1 x182000 x182001 x182002))
def laws_FnExactRoundTime.j1 : Nat → List (List Int) → List Int → Int → Int → Option (Bool)
 | 0, _, _, _, _ => none
 | k + 1, x1, x182000, x182001, x182002 => (laws_toNight.f k x182000 x182001 x182002).bind fun bt184 => ((laws_toIntSS.f k x1).bind fun t189 => ((spec_RoundTime.f k bt184.1 bt184.2.1 bt184.2.2 t189).bind fun bt192 => ((laws_toNight.f k x182000 x182001 x182002).bind fun bt194 => ((laws_toIntSS.f k x1).bind fun t200 => ((impl_RoundTime.f k bt194.1 bt194.2.1 bt194.2.2 t200).bind fun bt203 => (if bt203.1 = bt192.1 then (laws_FnExactRoundTime.j2 k x1 t200 (bt203.2 != bt192.2) x182000 x182001 x182002 bt194.1 bt194.2.1 bt194.2.2) else (laws_FnExactRoundTime.j2 k x1 t200 true x182000 x182001 x182002 bt194.1 bt194.2.1 bt194.2.2)))))))
def laws_FnExactRoundTime.j2 : Nat → List (List Int) → List (List Int) → Bool → List Int → Int → Int → List Int → Int → Int → Option (Bool)
 | 0, _, _, _, _, _, _, _, _, _ => none
 | k + 1, x1, x9, x47, x182000, x182001, x182002, x200000, x200001, x200002 => if x47 = true then (some false) else (laws_FnExactRoundTime.j3 k x1 x9 x182000 x182001 x182002 x200000 x200001 x200002)
def laws_FnExactRoundTime.j3 : Nat → List (List Int) → List (List Int) → List Int → Int → Int → List Int → Int → Int → Option (Bool)
 | 0, _, _, _, _, _, _, _, _ => none
 | k + 1, x1, x9, x182000, x182001, x182002, x200000, x200001, x200002 => (laws_toNight.f k x182000 x182001 x182002).bind fun bt205 => ((laws_eqNight.f k x200000 x200001 x200002 bt205.1 bt205.2.1 bt205.2.2).bind fun t210 => (if t210 = true then (laws_FnExactRoundTime.j4 k x1 x9) else (some false)))
def laws_FnExactRoundTime.j4 : Nat → List (List Int) → List (List Int) → Option (Bool)
 | 0, _, _ => none
 | k + 1, x1, x9 => (laws_toIntSS.f k x1).bind fun t211 => ((laws_eqIntSS.f k x9 t211).bind fun t214 => (if t214 = true then (some true) else (some false)))
end
def laws_FnExactRoundTime.f (k : Nat) (l0_0 : List Int) (a0_1 : Int) (a0_2 : Int) (l1 : List (List Int)) : Option (Bool) := (laws_szNight.f l0_0 a0_1 a0_2 1048576).bind fun t182 => (if t182 < 0 then (some true) else (laws_FnExactRoundTime.j0 k l1 t182 l0_0 a0_1 a0_2))
set_option maxHeartbeats 8000000 in
set_option maxRecDepth 100000 in
theorem laws_FnExactRoundTime.calls (k : Nat) (A0_0 : Option Addr) (c0_0 : Nat) (l0_0 : List Int) (a0_1 : Int) (a0_2 : Int) (A1 : Option Addr) (c1 : Nat) (l1 : List (List Int)) (r : Bool) (w : World) (hr0_0 : Kd.C (Kd.int .i64) w A0_0 l0_0.length l0_0) (hc0_0 : l0_0.length ≤ c0_0) (hr1 : Kd.C (Kd.slice 3 (Kd.int .i64)) w A1 l1.length l1) (hc1 : l1.length ≤ c1) (h : laws_FnExactRoundTime.f k l0_0 a0_1 a0_2 l1 = some r) :
  Calls Try.prog 4 #[.agg #[.slice A0_0 l0_0.length c0_0, .int .i64 a0_1, .int .i64 a0_2], .slice A1 l1.length c1] w fun e w' => e = .returned (.bool r) ∧ Below w.heap.size w w' := by
 have hu24 := Try.underlying24
 have hu31 := Try.underlying31
 have HR0_0 := am' hr0_0
 have HC0_0 := am' hc0_0
 clear hr0_0 hc0_0; have HR1 := am' hr1
 have HC1 := am' hc1
 clear hr1 hc1; have HB := am' (Below.refl w.heap.size w)
 have H : ((laws_szNight.f l0_0 a0_1 a0_2 1048576).bind fun t182 => (if t182 < 0 then (some true) else (laws_FnExactRoundTime.j0 k l1 t182 l0_0 a0_1 a0_2))) = some r := h
 clear h; replace H := Option.bind_eq_some_iff.mp H
 obtain ⟨t182, A30, H⟩ := H
 replace H : (if t182 < 0 then (some true) else (laws_FnExactRoundTime.j0 k l1 t182 l0_0 a0_1 a0_2)) = some r := H
 have A3 := am' A30
 clear A30; have HC4 := am' H
 clear H; go_enter Try.func4, Try.ntmps4
 go_upto_if 16 with (first | ((with_reducible refine gate_dst (N := 2) rfl ?_); refine box_event ?hg (N := 2) ?hd (cs := #[.slice A0_0 l0_0.length c0_0, .int .i64 a0_1, .int .i64 a0_2]) (t := 24) ?hr ?_; (case hd => rfl); (case hg => rfl); (case hr => first | (go_simp; done) | (go_simp; rfl)); intro gb181 hg w5 hbox hb; have n0_ := am' (below_step (by repeat (first | (with_reducible first | exact HB.out | apply ba' | apply bd' | apply be') | exact HB.out)) hb); have n1_ := am' (hbox); have n2_ := am' ((by rw [hg]; exact (below_size (by repeat (first | (with_reducible first | exact HB.out | apply ba' | apply bd' | apply be') | exact HB.out))) : w.heap.size ≤ gb181)); have n3_ := am' ((by rw [hg]; exact (below_size (by repeat (first | (with_reducible first | exact HB.out | apply ba' | apply bd' | apply be') | exact HB.out))) : w.heap.size ≤ gb181)); clear HB; have HB := n0_; have BK181 := n1_; have GW181 := n2_; have GE181 := n3_; clear n0_ n1_ n2_ n3_; clear hb hbox hg; have hcz6_0 : w5.cell? ⟨gb181, 0, none⟩ = some (.slice A0_0 l0_0.length c0_0) := (blk_cell BK181.out 0).trans rfl; have hcz6_1 : w5.cell? ⟨gb181, 1, none⟩ = some (.int .i64 a0_1) := (blk_cell BK181.out 1).trans rfl; have hcz6_2 : w5.cell? ⟨gb181, 2, none⟩ = some (.int .i64 a0_2) := (blk_cell BK181.out 2).trans rfl; have hfz6_0 := blk_frozen BK181.out 0; have hfz6_1 := blk_frozen BK181.out 1; have hfz6_2 := blk_frozen BK181.out 2) | ((with_reducible refine gate_callee (f := 15) rfl ?_); refine goesL_ (some 14) rfl rfl Try.func15 (by kernel_rfl) rfl #[.agg #[.slice A0_0 l0_0.length c0_0, .int .i64 a0_1, .int .i64 a0_2], .int .i64 1048576] rfl (by (try simp only [List.map_toArray, List.map_cons, List.map_nil]); first | done | rfl | (simp only [List.length_drop, List.length_take]; rfl)) ?_; (with_reducible refine (laws_szNight.calls _ _ l0_0 a0_1 a0_2 1048576 t182 _ ?side1 ?side2 A3.out).mono ?_); (case side1 => repeat (first | exact (Kd.C_below HR0_0.out HB.out) | (with_reducible refine ca' ?_ _) | (with_reducible refine cn' ?_ _) | (with_reducible refine cd' ?_))); (case side2 => exact HC0_0.out); rintro e w7 ⟨rfl, hb⟩; refine ⟨_, rfl, ?_⟩; have n0_ := am' (blk_below (g := gb181) (o := .cells #[.slice A0_0 l0_0.length c0_0, .int .i64 a0_1, .int .i64 a0_2] 24 (0, 0)) (by (with_reducible repeat (first | refine kn' ?_ _ | refine kd' ?_ | refine ka' ?_ _)); exact BK181.out) hb); have n1_ := am' (below_step (by repeat (first | (with_reducible first | exact HB.out | apply ba' | apply bd' | apply be' | refine bs' ?_ GE181.out) | exact HB.out)) hb); clear BK181; clear HB; have BK181 := n0_; have HB := n1_; clear n0_ n1_; (try clear hb); (try clear hb2); (try clear hk); (try clear hi)))
 (try simp only [Act.put, sa', sb', sc'])
 go_cut [] (fun wc => ∃ (kq : Nat), Aside0 (laws_FnExactRoundTime.j0 kq l1 t182 l0_0 a0_1 a0_2 = some r) ∧ Aside0 (kq ≤ k) ∧ Aside0 (wc.heap[gb181]? = some (.cells #[(.slice A0_0 l0_0.length c0_0), .int .i64 a0_1, .int .i64 a0_2] 24 (0, 0))) ∧ Aside0 (Below w.heap.size w wc))
 case first =>
  have H := HC4.out
  clear HC4; by_cases c8 : t182 < 0
  ·
   rw [if_pos c8] at H; have c8b0 : decide (t182 < 0) = true := decide_eq_true c8
   clear c8; (first | rw [c8b0] | (simp only [i64_w, i32_w]; rw [c8b0]) | skip)
   obtain rfl := Option.some.inj H
   go_wp2
   go_ret
   exact ⟨by first | rfl | (simp [errW_none, errW_some] <;> rfl) | (simp [*, errW_none, errW_some] <;> rfl), by repeat (first | (with_reducible first | exact HB.out | apply ba' | apply bd' | apply be' | refine bs' ?_ GE181.out) | exact HB.out)⟩
  ·
   rw [if_neg c8] at H; have c8b0 : decide (t182 < 0) = false := decide_eq_false c8
   clear c8; (first | rw [c8b0] | (simp only [i64_w, i32_w]; rw [c8b0]) | skip)
   have H' := am' H
   clear H; go_wp2
   go_meet
   case rel => exact ⟨_, H', ⟨by first | omega | exact Nat.le_refl _⟩, ⟨by (with_reducible repeat (first | refine kn' ?_ _ | refine kd' ?_ | refine ka' ?_ _)); exact BK181.out⟩, ⟨by repeat (first | (with_reducible first | exact HB.out | apply ba' | apply bd' | apply be' | refine bs' ?_ GE181.out) | exact HB.out)⟩⟩
 case rest =>
  clear HC4; try clear c1
  try clear p2
  try clear c4
  try clear c8
  try clear c8b0
  try clear hcz6_0
  try clear hcz6_1
  try clear hcz6_2
  try clear hfz6_0
  try clear hfz6_1
  try clear hfz6_2
  obtain ⟨kq, HA, HJ3, BK181, HB⟩ := hcut
  cases kq with
  | zero => exact absurd HA.out (by simp [laws_FnExactRoundTime.j0])
  | succ kj3 =>
   have H := HA.out
   clear HA; simp only [laws_FnExactRoundTime.j0] at H
   replace H := Option.bind_eq_some_iff.mp H
   obtain ⟨t183, A90, H⟩ := H
   replace H : (if t183 < 0 then (some true) else (laws_FnExactRoundTime.j1 kj3 l1 l0_0 a0_1 a0_2)) = some r := H
   have A9 := am' A90
   clear A90; have HC10 := am' H
   clear H; go_upto_if 21 with (first | ((with_reducible refine gate_callee (f := 24) rfl ?_); refine goesL_ (some 19) rfl rfl Try.func24 (by kernel_rfl) rfl #[.slice A1 l1.length c1, .int .i64 t182] rfl (by (try simp only [List.map_toArray, List.map_cons, List.map_nil]); first | done | rfl | (simp only [List.length_drop, List.length_take]; rfl)) ?_; (with_reducible refine (laws_szIntSS.calls kj3 _ _ l1 t182 t183 _ ?side1 ?side2 A9.out).mono ?_); (case side1 => repeat (first | exact (Kd.C_below HR1.out HB.out) | (with_reducible refine ca' ?_ _) | (with_reducible refine cn' ?_ _) | (with_reducible refine cd' ?_))); (case side2 => exact HC1.out); rintro e w' ⟨rfl, ⟨nd, rfl⟩⟩; refine ⟨_, rfl, ?_⟩))
   (try simp only [Act.put, sa', sb', sc'])
   go_cut [] (fun wc => ∃ (kq : Nat), Aside0 (laws_FnExactRoundTime.j1 kq l1 l0_0 a0_1 a0_2 = some r) ∧ Aside0 (kq ≤ kj3) ∧ Aside0 (wc.heap[gb181]? = some (.cells #[(.slice A0_0 l0_0.length c0_0), .int .i64 a0_1, .int .i64 a0_2] 24 (0, 0))) ∧ Aside0 (Below w.heap.size w wc))
   case first =>
    have H := HC10.out
    clear HC10; by_cases c11 : t183 < 0
    ·
     rw [if_pos c11] at H; have c11b0 : decide (t183 < 0) = true := decide_eq_true c11
     clear c11; (first | rw [c11b0] | (simp only [i64_w, i32_w]; rw [c11b0]) | skip)
     obtain rfl := Option.some.inj H
     go_wp2
     go_ret
     exact ⟨by first | rfl | (simp [errW_none, errW_some] <;> rfl) | (simp [*, errW_none, errW_some] <;> rfl), by repeat (first | (with_reducible first | exact HB.out | apply ba' | apply bd' | apply be' | refine bs' ?_ GE181.out) | exact HB.out)⟩
    ·
     rw [if_neg c11] at H; have c11b0 : decide (t183 < 0) = false := decide_eq_false c11
     clear c11; (first | rw [c11b0] | (simp only [i64_w, i32_w]; rw [c11b0]) | skip)
     have H' := am' H
     clear H; go_wp2
     go_meet
     case rel => exact ⟨_, H', ⟨by have := HJ3.out; first | omega | exact Nat.le_refl _⟩, ⟨by (with_reducible repeat (first | refine kn' ?_ _ | refine kd' ?_ | refine ka' ?_ _)); exact BK181.out⟩, ⟨by repeat (first | (with_reducible first | exact HB.out | apply ba' | apply bd' | apply be' | refine bs' ?_ GE181.out) | exact HB.out)⟩⟩
   case rest =>
    clear HC10; try clear c1
    try clear c2
    try clear p2
    try clear c4
    try clear c8
    try clear c8b0
    try clear c11
    try clear c11b0
    try clear hcz6_0
    try clear hcz6_1
    try clear hcz6_2
    try clear hfz6_0
    try clear hfz6_1
    try clear hfz6_2
    try clear p2
    obtain ⟨kq, HA, HJ9, BK181, HB⟩ := hcut
    cases kq with
    | zero => exact absurd HA.out (by simp [laws_FnExactRoundTime.j1])
    | succ kj9 =>
     have H := HA.out
     clear HA; simp only [laws_FnExactRoundTime.j1] at H
     replace H := Option.bind_eq_some_iff.mp H
     obtain ⟨⟨t184, t187, t188⟩, A120, H⟩ := H
     replace H : ((laws_toIntSS.f kj9 l1).bind fun t189 => ((spec_RoundTime.f kj9 t184 t187 t188 t189).bind fun bt192 => ((laws_toNight.f kj9 l0_0 a0_1 a0_2).bind fun bt194 => ((laws_toIntSS.f kj9 l1).bind fun t200 => ((impl_RoundTime.f kj9 bt194.1 bt194.2.1 bt194.2.2 t200).bind fun bt203 => (if bt203.1 = bt192.1 then (laws_FnExactRoundTime.j2 kj9 l1 t200 (bt203.2 != bt192.2) l0_0 a0_1 a0_2 bt194.1 bt194.2.1 bt194.2.2) else (laws_FnExactRoundTime.j2 kj9 l1 t200 true l0_0 a0_1 a0_2 bt194.1 bt194.2.1 bt194.2.2))))))) = some r := H
     have A12 := am' A120
     clear A120; replace H := Option.bind_eq_some_iff.mp H
     obtain ⟨t189, A130, H⟩ := H
     replace H : ((spec_RoundTime.f kj9 t184 t187 t188 t189).bind fun bt192 => ((laws_toNight.f kj9 l0_0 a0_1 a0_2).bind fun bt194 => ((laws_toIntSS.f kj9 l1).bind fun t200 => ((impl_RoundTime.f kj9 bt194.1 bt194.2.1 bt194.2.2 t200).bind fun bt203 => (if bt203.1 = bt192.1 then (laws_FnExactRoundTime.j2 kj9 l1 t200 (bt203.2 != bt192.2) l0_0 a0_1 a0_2 bt194.1 bt194.2.1 bt194.2.2) else (laws_FnExactRoundTime.j2 kj9 l1 t200 true l0_0 a0_1 a0_2 bt194.1 bt194.2.1 bt194.2.2)))))) = some r := H
     have A13 := am' A130
     clear A130; replace H := Option.bind_eq_some_iff.mp H
     obtain ⟨⟨t192, t193⟩, A140, H⟩ := H
     replace H : ((laws_toNight.f kj9 l0_0 a0_1 a0_2).bind fun bt194 => ((laws_toIntSS.f kj9 l1).bind fun t200 => ((impl_RoundTime.f kj9 bt194.1 bt194.2.1 bt194.2.2 t200).bind fun bt203 => (if bt203.1 = t192 then (laws_FnExactRoundTime.j2 kj9 l1 t200 (bt203.2 != t193) l0_0 a0_1 a0_2 bt194.1 bt194.2.1 bt194.2.2) else (laws_FnExactRoundTime.j2 kj9 l1 t200 true l0_0 a0_1 a0_2 bt194.1 bt194.2.1 bt194.2.2))))) = some r := H
     have A14 := am' A140
     clear A140; replace H := Option.bind_eq_some_iff.mp H
     obtain ⟨⟨t194, t197, t198⟩, A150, H⟩ := H
     replace H : ((laws_toIntSS.f kj9 l1).bind fun t200 => ((impl_RoundTime.f kj9 t194 t197 t198 t200).bind fun bt203 => (if bt203.1 = t192 then (laws_FnExactRoundTime.j2 kj9 l1 t200 (bt203.2 != t193) l0_0 a0_1 a0_2 t194 t197 t198) else (laws_FnExactRoundTime.j2 kj9 l1 t200 true l0_0 a0_1 a0_2 t194 t197 t198)))) = some r := H
     have A15 := am' A150
     clear A150; replace H := Option.bind_eq_some_iff.mp H
     obtain ⟨t200, A160, H⟩ := H
     replace H : ((impl_RoundTime.f kj9 t194 t197 t198 t200).bind fun bt203 => (if bt203.1 = t192 then (laws_FnExactRoundTime.j2 kj9 l1 t200 (bt203.2 != t193) l0_0 a0_1 a0_2 t194 t197 t198) else (laws_FnExactRoundTime.j2 kj9 l1 t200 true l0_0 a0_1 a0_2 t194 t197 t198))) = some r := H
     have A16 := am' A160
     clear A160; replace H := Option.bind_eq_some_iff.mp H
     obtain ⟨⟨t203, t204⟩, A170, H⟩ := H
     replace H : (if t203 = t192 then (laws_FnExactRoundTime.j2 kj9 l1 t200 (t204 != t193) l0_0 a0_1 a0_2 t194 t197 t198) else (laws_FnExactRoundTime.j2 kj9 l1 t200 true l0_0 a0_1 a0_2 t194 t197 t198)) = some r := H
     have A17 := am' A170
     clear A170; have HC18 := am' H
     clear H; have hcz19_0 : wc.cell? ⟨gb181, 0, none⟩ = some (.slice A0_0 l0_0.length c0_0) := (blk_cell BK181.out 0).trans rfl
     have hcz19_1 : wc.cell? ⟨gb181, 1, none⟩ = some (.int .i64 a0_1) := (blk_cell BK181.out 1).trans rfl
     have hcz19_2 : wc.cell? ⟨gb181, 2, none⟩ = some (.int .i64 a0_2) := (blk_cell BK181.out 2).trans rfl
     have hfz19_0 := blk_frozen BK181.out 0
     have hfz19_1 := blk_frozen BK181.out 1
     have hfz19_2 := blk_frozen BK181.out 2
     go_upto_region 12 with (first | ((with_reducible refine gate_callee (f := 17) rfl ?_); refine goesL_ (some 24) rfl rfl Try.func17 (by kernel_rfl) rfl #[.agg #[.slice A0_0 l0_0.length c0_0, .int .i64 a0_1, .int .i64 a0_2]] rfl (by (try simp only [List.map_toArray, List.map_cons, List.map_nil]); first | done | rfl | (simp only [List.length_drop, List.length_take]; rfl)) ?_; (with_reducible refine (laws_toNight.calls kj9 _ _ l0_0 a0_1 a0_2 t184 t187 t188 _ ?side1 ?side2 A12.out).mono ?_); (case side1 => repeat (first | exact (Kd.C_below HR0_0.out HB.out) | (with_reducible refine ca' ?_ _) | (with_reducible refine cn' ?_ _) | (with_reducible refine cd' ?_))); (case side2 => exact HC0_0.out); rintro e w20 ⟨v185, rfl, ho0, hb⟩; refine ⟨_, rfl, ?_⟩; obtain ⟨D215_, hdl_, hdg_⟩ := dlt_of hb; have D215_lt := am' hdl_; have D215_ge := am' hdg_; clear hdl_ hdg_; have n0_ := am' (Kd.R_lower (Kd.R_dge ho0 D215_ge.out) (below_size (by repeat (first | (with_reducible first | exact HB.out | apply ba' | apply bd' | apply be' | refine bs' ?_ GE181.out) | exact HB.out)))); have n1_ := am' (blk_below (g := gb181) (o := .cells #[.slice A0_0 l0_0.length c0_0, .int .i64 a0_1, .int .i64 a0_2] 24 (0, 0)) (by (with_reducible repeat (first | refine kn' ?_ _ | refine kd' ?_ | refine ka' ?_ _)); exact BK181.out) hb); have n2_ := am' (below_step (by repeat (first | (with_reducible first | exact HB.out | apply ba' | apply bd' | apply be' | refine bs' ?_ GE181.out) | exact HB.out)) hb); clear BK181; clear HB; have HO186 := n0_; have BK181 := n1_; have HB := n2_; clear n0_ n1_ n2_; (try clear hb); (try clear hb2); (try clear hk); (try clear hi); (try clear ho0)) | ((with_reducible refine gate_callee (f := 26) rfl ?_); refine goesL_ (some 26) rfl rfl Try.func26 (by kernel_rfl) rfl #[.slice A1 l1.length c1] rfl (by (try simp only [List.map_toArray, List.map_cons, List.map_nil]); first | done | rfl | (simp only [List.length_drop, List.length_take]; rfl)) ?_; (with_reducible refine (laws_toIntSS.calls kj9 _ _ l1 t189 _ ?side1 ?side2 A13.out).mono ?_); (case side1 => repeat (first | exact (Kd.C_below HR1.out HB.out) | (with_reducible refine ca' ?_ _) | (with_reducible refine cn' ?_ _) | (with_reducible refine cd' ?_))); (case side2 => exact HC1.out); rintro e w21 ⟨v190, rfl, ho0, hb⟩; refine ⟨_, rfl, ?_⟩; obtain ⟨D216_, hdl_, hdg_⟩ := dlt_of hb; have D216_lt := am' hdl_; have D216_ge := am' hdg_; clear hdl_ hdg_; have n0_ := am' (Kd.R_below (Kd.R_dlt (by (with_reducible repeat (first | apply ra' | apply rn' | apply rw')); exact HO186.out) D216_lt.out) hb); have n1_ := am' (Kd.S_lower (Kd.S_new' (Kd.S_dge ho0 D216_ge.out) (Kd.R_lt (by (with_reducible repeat (first | apply ra' | apply rn' | apply rw')); exact HO186.out))) (below_size (by repeat (first | (with_reducible first | exact HB.out | apply ba' | apply bd' | apply be' | refine bs' ?_ GE181.out) | exact HB.out)))); have n2_ := am' (blk_below (g := gb181) (o := .cells #[.slice A0_0 l0_0.length c0_0, .int .i64 a0_1, .int .i64 a0_2] 24 (0, 0)) (by (with_reducible repeat (first | refine kn' ?_ _ | refine kd' ?_ | refine ka' ?_ _)); exact BK181.out) hb); have n3_ := am' (below_step (by repeat (first | (with_reducible first | exact HB.out | apply ba' | apply bd' | apply be' | refine bs' ?_ GE181.out) | exact HB.out)) hb); clear HO186; clear BK181; clear HB; have HO186 := n0_; have HO191 := n1_; have BK181 := n2_; have HB := n3_; clear n0_ n1_ n2_ n3_; (try clear hb); (try clear hb2); (try clear hk); (try clear hi); (try clear ho0); obtain ⟨Ao22, co22, eo22⟩ := Kd.R_slice HO186.out; subst eo22; obtain ⟨Ao23, co23, eo23⟩ := Kd.S_slice HO191.out; subst eo23) | ((with_reducible refine gate_callee (f := 25) rfl ?_); refine goesL_ (some 27) rfl rfl Try.func25 (by kernel_rfl) rfl #[.agg #[.slice Ao22 t184.length co22, .int .i64 t187, .int .i64 t188], .slice Ao23 t189.length co23] rfl (by (try simp only [List.map_toArray, List.map_cons, List.map_nil]); first | done | rfl | (simp only [List.length_drop, List.length_take]; rfl)) ?_; (with_reducible refine (spec_RoundTime.calls kj9 _ _ t184 t187 t188 _ _ t189 t192 t193 _ ?side1 ?side2 ?side3 ?side4 A14.out).mono ?_); (case side1 => repeat (first | exact (Kd.R_reads' HO186.out).2.2 | (with_reducible refine ca' ?_ _) | (with_reducible refine cn' ?_ _) | (with_reducible refine cd' ?_))); (case side2 => exact (Kd.R_reads' HO186.out).2.1); (case side3 => repeat (first | exact (Kd.S_reads' HO191.out).2.2 | (with_reducible refine ca' ?_ _) | (with_reducible refine cn' ?_ _) | (with_reducible refine cd' ?_))); (case side4 => exact (Kd.S_reads' HO191.out).2.1); rintro e w24 ⟨rfl, hb⟩; refine ⟨_, rfl, ?_⟩; have n0_ := am' (Kd.R_below (by (with_reducible repeat (first | apply ra' | apply rn' | apply rw')); exact HO186.out) hb); have n1_ := am' (Kd.S_below (by (with_reducible repeat (first | apply Kd.S_alloc | apply Kd.S_drewN | apply Kd.S_drew)); exact HO191.out) hb); have n2_ := am' (blk_below (g := gb181) (o := .cells #[.slice A0_0 l0_0.length c0_0, .int .i64 a0_1, .int .i64 a0_2] 24 (0, 0)) (by (with_reducible repeat (first | refine kn' ?_ _ | refine kd' ?_ | refine ka' ?_ _)); exact BK181.out) hb); have n3_ := am' (below_step (by repeat (first | (with_reducible first | exact HB.out | apply ba' | apply bd' | apply be' | refine bs' ?_ GE181.out) | exact HB.out)) hb); clear HO186; clear HO191; clear BK181; clear HB; have HO186 := n0_; have HO191 := n1_; have BK181 := n2_; have HB := n3_; clear n0_ n1_ n2_ n3_; (try clear hb); (try clear hb2); (try clear hk); (try clear hi); have hcz25_0 : w24.cell? ⟨gb181, 0, none⟩ = some (.slice A0_0 l0_0.length c0_0) := (blk_cell BK181.out 0).trans rfl; have hcz25_1 : w24.cell? ⟨gb181, 1, none⟩ = some (.int .i64 a0_1) := (blk_cell BK181.out 1).trans rfl; have hcz25_2 : w24.cell? ⟨gb181, 2, none⟩ = some (.int .i64 a0_2) := (blk_cell BK181.out 2).trans rfl; have hfz25_0 := blk_frozen BK181.out 0; have hfz25_1 := blk_frozen BK181.out 1; have hfz25_2 := blk_frozen BK181.out 2) | ((with_reducible refine gate_callee (f := 17) rfl ?_); refine goesL_ (some 31) rfl rfl Try.func17 (by kernel_rfl) rfl #[.agg #[.slice A0_0 l0_0.length c0_0, .int .i64 a0_1, .int .i64 a0_2]] rfl (by (try simp only [List.map_toArray, List.map_cons, List.map_nil]); first | done | rfl | (simp only [List.length_drop, List.length_take]; rfl)) ?_; (with_reducible refine (laws_toNight.calls kj9 _ _ l0_0 a0_1 a0_2 t194 t197 t198 _ ?side1 ?side2 A15.out).mono ?_); (case side1 => repeat (first | exact (Kd.C_below HR0_0.out HB.out) | (with_reducible refine ca' ?_ _) | (with_reducible refine cn' ?_ _) | (with_reducible refine cd' ?_))); (case side2 => exact HC0_0.out); rintro e w26 ⟨v195, rfl, ho0, hb⟩; refine ⟨_, rfl, ?_⟩; obtain ⟨D217_, hdl_, hdg_⟩ := dlt_of hb; have D217_lt := am' hdl_; have D217_ge := am' hdg_; clear hdl_ hdg_; have n0_ := am' (Kd.R_elder' (Kd.R_dlt (by (with_reducible repeat (first | apply ra' | apply rn' | apply rw')); exact HO186.out) D217_lt.out) (Kd.R_base ho0) hb); have n1_ := am' (Kd.S_elder' (Kd.S_dlt (by (with_reducible repeat (first | apply Kd.S_alloc | apply Kd.S_drewN | apply Kd.S_drew)); exact HO191.out) D217_lt.out) (Kd.R_base ho0) hb); have n2_ := am' (Kd.R_lower (Kd.R_new' (Kd.R_dge ho0 D217_ge.out) (Kd.R_lt (by (with_reducible repeat (first | apply ra' | apply rn' | apply rw')); exact HO186.out))) (below_size (by repeat (first | (with_reducible first | exact HB.out | apply ba' | apply bd' | apply be' | refine bs' ?_ GE181.out) | exact HB.out)))); have n3_ := am' (blk_below (g := gb181) (o := .cells #[.slice A0_0 l0_0.length c0_0, .int .i64 a0_1, .int .i64 a0_2] 24 (0, 0)) (by (with_reducible repeat (first | refine kn' ?_ _ | refine kd' ?_ | refine ka' ?_ _)); exact BK181.out) hb); have n4_ := am' (below_step (by repeat (first | (with_reducible first | exact HB.out | apply ba' | apply bd' | apply be' | refine bs' ?_ GE181.out) | exact HB.out)) hb); clear HO186; clear HO191; clear BK181; clear HB; have HO186 := n0_; have HO191 := n1_; have HO196 := n2_; have BK181 := n3_; have HB := n4_; clear n0_ n1_ n2_ n3_ n4_; (try clear hb); (try clear hb2); (try clear hk); (try clear hi); (try clear ho0)) | ((with_reducible refine gate_dst (N := 8) rfl ?_); refine box_event ?hg (N := 8) ?hd (cs := #[.slice none 0 0, .int .i64 0, .int .i64 0]) (t := 31) ?hr ?_; (case hd => rfl); (case hg => rfl); (case hr => first | (go_simp; done) | (go_simp; rfl)); intro gb199 hg w27 hbox hb; have n0_ := am' (Kd.R_below (by (with_reducible repeat (first | apply ra' | apply rn' | apply rw')); exact HO186.out) hb); have n1_ := am' (Kd.S_below (by (with_reducible repeat (first | apply Kd.S_alloc | apply Kd.S_drewN | apply Kd.S_drew)); exact HO191.out) hb); have n2_ := am' (Kd.R_below (by (with_reducible repeat (first | apply ra' | apply rn' | apply rw')); exact HO196.out) hb); have n3_ := am' (blk_below (g := gb181) (o := .cells #[.slice A0_0 l0_0.length c0_0, .int .i64 a0_1, .int .i64 a0_2] 24 (0, 0)) (by (with_reducible repeat (first | refine kn' ?_ _ | refine kd' ?_ | refine ka' ?_ _)); exact BK181.out) hb); have n4_ := am' (below_step (by repeat (first | (with_reducible first | exact HB.out | apply ba' | apply bd' | apply be' | refine bs' ?_ GE181.out) | exact HB.out)) hb); have n5_ := am' (hbox); have n6_ := am' ((by rw [hg]; exact (below_size (by repeat (first | (with_reducible first | exact HB.out | apply ba' | apply bd' | apply be' | refine bs' ?_ GE181.out) | exact HB.out))) : w.heap.size ≤ gb199)); have n7_ := am' ((by rw [hg]; exact (below_size (by repeat (first | (with_reducible first | exact HB.out | apply ba' | apply bd' | apply be' | refine bs' ?_ GE181.out) | exact HB.out))) : w.heap.size ≤ gb199)); have n8_ := am' ((by rw [hg]; exact Nat.ne_of_lt (blk_lt (g := gb181) (o := .cells #[.slice A0_0 l0_0.length c0_0, .int .i64 a0_1, .int .i64 a0_2] 24 (0, 0)) (by (with_reducible repeat (first | refine kn' ?_ _ | refine kd' ?_ | refine ka' ?_ _)); exact BK181.out)) : gb181 ≠ gb199)); have n9_ := am' ((by rw [hg]; exact Nat.ne_of_gt (blk_lt (g := gb181) (o := .cells #[.slice A0_0 l0_0.length c0_0, .int .i64 a0_1, .int .i64 a0_2] 24 (0, 0)) (by (with_reducible repeat (first | refine kn' ?_ _ | refine kd' ?_ | refine ka' ?_ _)); exact BK181.out)) : gb199 ≠ gb181)); clear HO186; clear HO191; clear HO196; clear BK181; clear HB; have HO186 := n0_; have HO191 := n1_; have HO196 := n2_; have BK181 := n3_; have HB := n4_; have BK199 := n5_; have GW199 := n6_; have GE199 := n7_; have NB181_199 := n8_; have NB199_181 := n9_; clear n0_ n1_ n2_ n3_ n4_ n5_ n6_ n7_ n8_ n9_; clear hb hbox hg; obtain ⟨Ao28, co28, eo28⟩ := Kd.R_slice HO196.out; subst eo28; have hnb29 := NB199_181.out; have hnc29 := NB181_199.out; have hcz30_0 : w27.cell? ⟨gb199, 0, none⟩ = some (.slice none 0 0) := (blk_cell BK199.out 0).trans rfl; have hcz30_1 : w27.cell? ⟨gb199, 1, none⟩ = some (.int .i64 0) := (blk_cell BK199.out 1).trans rfl; have hcz30_2 : w27.cell? ⟨gb199, 2, none⟩ = some (.int .i64 0) := (blk_cell BK199.out 2).trans rfl; have hfz30_0 := blk_frozen BK199.out 0; have hfz30_1 := blk_frozen BK199.out 1; have hfz30_2 := blk_frozen BK199.out 2) | ((with_reducible refine gate_callee (f := 26) rfl ?_); refine goesL_ (some 33) rfl rfl Try.func26 (by kernel_rfl) rfl #[.slice A1 l1.length c1] rfl (by (try simp only [List.map_toArray, List.map_cons, List.map_nil]); first | done | rfl | (simp only [List.length_drop, List.length_take]; rfl)) ?_; (with_reducible refine (laws_toIntSS.calls kj9 _ _ l1 t200 _ ?side1 ?side2 A16.out).mono ?_); (case side1 => exact Kd.C_below HR1.out (by repeat (first | (with_reducible first | exact HB.out | apply ba' | apply bd' | apply be' | refine bs' ?_ GE181.out | refine bs' ?_ GE199.out) | exact HB.out))); (case side2 => exact HC1.out); rintro e w31 ⟨v201, rfl, ho0, hb⟩; refine ⟨_, rfl, ?_⟩; obtain ⟨D218_, hdl_, hdg_⟩ := dlt_of hb; have D218_lt := am' hdl_; have D218_ge := am' hdg_; clear hdl_ hdg_; have n0_ := am' (Kd.R_below (Kd.R_dlt (by (with_reducible repeat (first | apply ra' | apply rn' | apply rw')); exact (Kd.R_mono (Kd.R_far (p := ⟨gb199, 2, none⟩) (Kd.R_far (p := ⟨gb199, 1, none⟩) (Kd.R_far (p := ⟨gb199, 0, none⟩) (Kd.R_types HO186.out BK199.out (by decide)) (fun _ hk => hk.2) (.slice Ao28 t194.length co28)) (fun _ hk => hk.2) (.int .i64 t197)) (fun _ hk => hk.2) (.int .i64 t198)) (fun _ h_ => h_.1))) D218_lt.out) hb); have n1_ := am' (Kd.S_elder' (Kd.S_dlt (by (with_reducible repeat (first | apply Kd.S_alloc | apply Kd.S_drewN | apply Kd.S_drew)); exact (Kd.S_mono (Kd.S_far (p := ⟨gb199, 2, none⟩) (Kd.S_far (p := ⟨gb199, 1, none⟩) (Kd.S_far (p := ⟨gb199, 0, none⟩) (Kd.S_types HO191.out BK199.out (by decide)) (fun _ hk => hk.2) (.slice Ao28 t194.length co28)) (fun _ hk => hk.2) (.int .i64 t197)) (fun _ hk => hk.2) (.int .i64 t198)) (fun _ h_ => h_.1))) D218_lt.out) (Kd.S_base ho0) hb); have n2_ := am' (Kd.R_below (Kd.R_dlt (by (with_reducible repeat (first | apply ra' | apply rn' | apply rw')); exact (Kd.R_mono (Kd.R_far (p := ⟨gb199, 2, none⟩) (Kd.R_far (p := ⟨gb199, 1, none⟩) (Kd.R_far (p := ⟨gb199, 0, none⟩) (Kd.R_types HO196.out BK199.out (by decide)) (fun _ hk => hk.2) (.slice Ao28 t194.length co28)) (fun _ hk => hk.2) (.int .i64 t197)) (fun _ hk => hk.2) (.int .i64 t198)) (fun _ h_ => h_.1))) D218_lt.out) hb); have n3_ := am' (Kd.S_lower (Kd.S_new' (Kd.S_new' (Kd.S_new' (Kd.S_dge ho0 D218_ge.out) (Kd.R_lt (by (with_reducible repeat (first | apply ra' | apply rn' | apply rw')); exact (Kd.R_mono (Kd.R_far (p := ⟨gb199, 2, none⟩) (Kd.R_far (p := ⟨gb199, 1, none⟩) (Kd.R_far (p := ⟨gb199, 0, none⟩) (Kd.R_types HO186.out BK199.out (by decide)) (fun _ hk => hk.2) (.slice Ao28 t194.length co28)) (fun _ hk => hk.2) (.int .i64 t197)) (fun _ hk => hk.2) (.int .i64 t198)) (fun _ h_ => h_.1))))) (Kd.S_lt (by (with_reducible repeat (first | apply Kd.S_alloc | apply Kd.S_drewN | apply Kd.S_drew)); exact (Kd.S_mono (Kd.S_far (p := ⟨gb199, 2, none⟩) (Kd.S_far (p := ⟨gb199, 1, none⟩) (Kd.S_far (p := ⟨gb199, 0, none⟩) (Kd.S_types HO191.out BK199.out (by decide)) (fun _ hk => hk.2) (.slice Ao28 t194.length co28)) (fun _ hk => hk.2) (.int .i64 t197)) (fun _ hk => hk.2) (.int .i64 t198)) (fun _ h_ => h_.1))))) (Kd.R_lt (by (with_reducible repeat (first | apply ra' | apply rn' | apply rw')); exact (Kd.R_mono (Kd.R_far (p := ⟨gb199, 2, none⟩) (Kd.R_far (p := ⟨gb199, 1, none⟩) (Kd.R_far (p := ⟨gb199, 0, none⟩) (Kd.R_types HO196.out BK199.out (by decide)) (fun _ hk => hk.2) (.slice Ao28 t194.length co28)) (fun _ hk => hk.2) (.int .i64 t197)) (fun _ hk => hk.2) (.int .i64 t198)) (fun _ h_ => h_.1))))) (below_size (by repeat (first | (with_reducible first | exact HB.out | apply ba' | apply bd' | apply be' | refine bs' ?_ GE181.out | refine bs' ?_ GE199.out) | exact HB.out)))); have n4_ := am' (blk_below (g := gb181) (o := .cells #[.slice A0_0 l0_0.length c0_0, .int .i64 a0_1, .int .i64 a0_2] 24 (0, 0)) (by (with_reducible repeat (first | refine kn' ?_ _ | refine kd' ?_ | refine ka' ?_ _)); refine blk_far ?_ NB181_199.out _; (with_reducible repeat (first | refine kn' ?_ _ | refine kd' ?_ | refine ka' ?_ _)); refine blk_far ?_ NB181_199.out _; (with_reducible repeat (first | refine kn' ?_ _ | refine kd' ?_ | refine ka' ?_ _)); refine blk_far ?_ NB181_199.out _; (with_reducible repeat (first | refine kn' ?_ _ | refine kd' ?_ | refine ka' ?_ _)); exact BK181.out) hb); have n5_ := am' (blk_below (g := gb199) (o := .cells #[.slice Ao28 t194.length co28, .int .i64 t197, .int .i64 t198] 31 (0, 0)) (by (with_reducible repeat (first | refine kn' ?_ _ | refine kd' ?_ | refine ka' ?_ _)); refine blk_put (cs := #[.slice Ao28 t194.length co28, .int .i64 t197, .int .i64 0]) ?_ 2 _ rfl; (with_reducible repeat (first | refine kn' ?_ _ | refine kd' ?_ | refine ka' ?_ _)); refine blk_put (cs := #[.slice Ao28 t194.length co28, .int .i64 0, .int .i64 0]) ?_ 1 _ rfl; (with_reducible repeat (first | refine kn' ?_ _ | refine kd' ?_ | refine ka' ?_ _)); refine blk_put (cs := #[.slice none 0 0, .int .i64 0, .int .i64 0]) ?_ 0 _ rfl; (with_reducible repeat (first | refine kn' ?_ _ | refine kd' ?_ | refine ka' ?_ _)); exact BK199.out) hb); have n6_ := am' (below_step (by repeat (first | (with_reducible first | exact HB.out | apply ba' | apply bd' | apply be' | refine bs' ?_ GE181.out | refine bs' ?_ GE199.out) | exact HB.out)) hb); clear HO186; clear HO191; clear HO196; clear BK181; clear BK199; clear HB; have HO186 := n0_; have HO191 := n1_; have HO196 := n2_; have HO202 := n3_; have BK181 := n4_; have BK199 := n5_; have HB := n6_; clear n0_ n1_ n2_ n3_ n4_ n5_ n6_; (try clear hb); (try clear hb2); (try clear hk); (try clear hi); (try clear ho0); have hcz32_0 : w31.cell? ⟨gb199, 0, none⟩ = some (.slice Ao28 t194.length co28) := (blk_cell BK199.out 0).trans rfl; have hcz32_1 : w31.cell? ⟨gb199, 1, none⟩ = some (.int .i64 t197) := (blk_cell BK199.out 1).trans rfl; have hcz32_2 : w31.cell? ⟨gb199, 2, none⟩ = some (.int .i64 t198) := (blk_cell BK199.out 2).trans rfl; have hfz32_0 := blk_frozen BK199.out 0; have hfz32_1 := blk_frozen BK199.out 1; have hfz32_2 := blk_frozen BK199.out 2; obtain ⟨Ao33, co33, eo33⟩ := Kd.S_slice HO202.out; subst eo33) | ((with_reducible refine gate_callee (f := 27) rfl ?_); refine goesL_ (some 37) rfl rfl Try.func27 (by kernel_rfl) rfl #[.agg #[.slice Ao28 t194.length co28, .int .i64 t197, .int .i64 t198], .slice Ao33 t200.length co33] rfl (by (try simp only [List.map_toArray, List.map_cons, List.map_nil]); first | done | rfl | (simp only [List.length_drop, List.length_take]; rfl)) ?_; (with_reducible refine (impl_RoundTime.calls kj9 _ _ t194 t197 t198 _ _ t200 t203 t204 _ ?side1 ?side2 ?side3 ?side4 A17.out).mono ?_); (case side1 => repeat (first | exact (Kd.R_reads' HO196.out).2.2 | (with_reducible refine ca' ?_ _) | (with_reducible refine cn' ?_ _) | (with_reducible refine cd' ?_))); (case side2 => exact (Kd.R_reads' HO196.out).2.1); (case side3 => repeat (first | exact (Kd.S_reads' HO202.out).2.2 | (with_reducible refine ca' ?_ _) | (with_reducible refine cn' ?_ _) | (with_reducible refine cd' ?_))); (case side4 => exact (Kd.S_reads' HO202.out).2.1); rintro e w34 ⟨rfl, hb⟩; refine ⟨_, rfl, ?_⟩; have n0_ := am' (Kd.R_below (by (with_reducible repeat (first | apply ra' | apply rn' | apply rw')); exact HO186.out) hb); have n1_ := am' (Kd.S_below (by (with_reducible repeat (first | apply Kd.S_alloc | apply Kd.S_drewN | apply Kd.S_drew)); exact HO191.out) hb); have n2_ := am' (Kd.R_below (by (with_reducible repeat (first | apply ra' | apply rn' | apply rw')); exact HO196.out) hb); have n3_ := am' (Kd.S_below (by (with_reducible repeat (first | apply Kd.S_alloc | apply Kd.S_drewN | apply Kd.S_drew)); exact HO202.out) hb); have n4_ := am' (blk_below (g := gb181) (o := .cells #[.slice A0_0 l0_0.length c0_0, .int .i64 a0_1, .int .i64 a0_2] 24 (0, 0)) (by (with_reducible repeat (first | refine kn' ?_ _ | refine kd' ?_ | refine ka' ?_ _)); exact BK181.out) hb); have n5_ := am' (blk_below (g := gb199) (o := .cells #[.slice Ao28 t194.length co28, .int .i64 t197, .int .i64 t198] 31 (0, 0)) (by (with_reducible repeat (first | refine kn' ?_ _ | refine kd' ?_ | refine ka' ?_ _)); exact BK199.out) hb); have n6_ := am' (below_step (by repeat (first | (with_reducible first | exact HB.out | apply ba' | apply bd' | apply be' | refine bs' ?_ GE181.out | refine bs' ?_ GE199.out) | exact HB.out)) hb); clear HO186; clear HO191; clear HO196; clear HO202; clear BK181; clear BK199; clear HB; have HO186 := n0_; have HO191 := n1_; have HO196 := n2_; have HO202 := n3_; have BK181 := n4_; have BK199 := n5_; have HB := n6_; clear n0_ n1_ n2_ n3_ n4_ n5_ n6_; (try clear hb); (try clear hb2); (try clear hk); (try clear hi)))
     (try simp only [Act.put, sa', sb', sc'])
     go_cut [47] (fun v47 wc => ∃ (kq : Nat) (x47_17 : Bool), v47 = .bool x47_17 ∧ Aside0 (laws_FnExactRoundTime.j2 kq l1 t200 x47_17 l0_0 a0_1 a0_2 t194 t197 t198 = some r) ∧ Aside0 (kq ≤ kj9) ∧ Aside0 (Kd.S (Kd.slice 3 (Kd.int .i64)) 22 wc w.heap.size (fun k_ => some k_ ≠ ((.slice Ao28 t194.length co28) : Value).ownBlock ∧ ¬ D218_ k_) (.slice Ao33 t200.length co33) t200) ∧ Aside0 (Kd.R (Kd.int .i64) 3 wc w.heap.size (fun k_ => ¬ D217_ k_ ∧ D218_ k_) (.slice Ao28 t194.length co28) t194) ∧ Aside0 (wc.heap[gb181]? = some (.cells #[(.slice A0_0 l0_0.length c0_0), .int .i64 a0_1, .int .i64 a0_2] 24 (0, 0))) ∧ Aside0 (wc.heap[gb199]? = some (.cells #[(.slice Ao28 t194.length co28), .int .i64 t197, .int .i64 t198] 31 (0, 0))) ∧ Aside0 (Below w.heap.size w wc))
     case first =>
      have H := HC18.out
      clear HC18; by_cases c35 : t203 = t192
      ·
       rw [if_pos c35] at H; have c35b0 : (t203 == t192) = true := beq_iff_eq.mpr c35
       have c35b1 : (t203 != t192) = false := bne_eq_false_iff_eq.mpr c35
       clear c35; (first | rw [c35b0] | (simp only [i64_w, i32_w]; rw [c35b0]) | skip)
       have H' := am' H
       clear H; go_wp2
       go_meet
       case rel => exact ⟨_, ((t204 != t193)), (by first | rfl | (simp; done) | (simp [*]; done)), H', ⟨by have := HJ3.out; have := HJ9.out; first | omega | exact Nat.le_refl _⟩, ⟨by (with_reducible repeat (first | apply Kd.S_alloc | apply Kd.S_drewN | apply Kd.S_drew)); exact Kd.S_mono HO202.out (fun _ hk => ⟨hk.2, hk.1.1.1.2⟩)⟩, ⟨by (with_reducible repeat (first | apply ra' | apply rn' | apply rw')); exact Kd.R_mono HO196.out (fun _ hk => ⟨hk.1.1.2, hk.2⟩)⟩, ⟨by (with_reducible repeat (first | refine kn' ?_ _ | refine kd' ?_ | refine ka' ?_ _)); exact BK181.out⟩, ⟨by (with_reducible repeat (first | refine kn' ?_ _ | refine kd' ?_ | refine ka' ?_ _)); exact BK199.out⟩, ⟨by repeat (first | (with_reducible first | exact HB.out | apply ba' | apply bd' | apply be' | refine bs' ?_ GE181.out | refine bs' ?_ GE199.out) | exact HB.out)⟩⟩
      ·
       rw [if_neg c35] at H; have c35b0 : (t203 == t192) = false := beq_eq_false_iff_ne.mpr c35
       have c35b1 : (t203 != t192) = true := bne_iff_ne.mpr c35
       (first | rw [c35b0] | (simp only [i64_w, i32_w]; rw [c35b0]) | skip)
       have H' := am' H
       clear H; go_wp2
       go_meet
       case rel => exact ⟨_, (true), (by first | rfl | (simp; done) | (simp [*]; done)), H', ⟨by have := HJ3.out; have := HJ9.out; first | omega | exact Nat.le_refl _⟩, ⟨by (with_reducible repeat (first | apply Kd.S_alloc | apply Kd.S_drewN | apply Kd.S_drew)); exact Kd.S_mono HO202.out (fun _ hk => ⟨hk.2, hk.1.1.1.2⟩)⟩, ⟨by (with_reducible repeat (first | apply ra' | apply rn' | apply rw')); exact Kd.R_mono HO196.out (fun _ hk => ⟨hk.1.1.2, hk.2⟩)⟩, ⟨by (with_reducible repeat (first | refine kn' ?_ _ | refine kd' ?_ | refine ka' ?_ _)); exact BK181.out⟩, ⟨by (with_reducible repeat (first | refine kn' ?_ _ | refine kd' ?_ | refine ka' ?_ _)); exact BK199.out⟩, ⟨by repeat (first | (with_reducible first | exact HB.out | apply ba' | apply bd' | apply be' | refine bs' ?_ GE181.out | refine bs' ?_ GE199.out) | exact HB.out)⟩⟩
     case rest =>
      clear HC18; try clear c1
      try clear c2
      try clear p2
      try clear c3
      try clear c4
      try clear c8
      try clear c8b0
      try clear c11
      try clear c11b0
      try clear c15
      try clear c17
      try clear c24
      try clear c25
      try clear c26
      try clear c27
      try clear c29
      try clear c35
      try clear c35b0
      try clear c35b1
      try clear hcz19_0
      try clear hcz19_1
      try clear hcz19_2
      try clear hcz25_0
      try clear hcz25_1
      try clear hcz25_2
      try clear hcz30_0
      try clear hcz30_1
      try clear hcz30_2
      try clear hcz32_0
      try clear hcz32_1
      try clear hcz32_2
      try clear hcz6_0
      try clear hcz6_1
      try clear hcz6_2
      try clear hfz19_0
      try clear hfz19_1
      try clear hfz19_2
      try clear hfz25_0
      try clear hfz25_1
      try clear hfz25_2
      try clear hfz30_0
      try clear hfz30_1
      try clear hfz30_2
      try clear hfz32_0
      try clear hfz32_1
      try clear hfz32_2
      try clear hfz6_0
      try clear hfz6_1
      try clear hfz6_2
      try clear p2
      obtain ⟨kq, x47_17, rfl, HA, HJ17, HO_9, HO_200000, BK181, BK199, HB⟩ := hcut
      cases kq with
      | zero => exact absurd HA.out (by simp [laws_FnExactRoundTime.j2])
      | succ kj17 =>
       have H := HA.out
       clear HA; simp only [laws_FnExactRoundTime.j2] at H
       have HC36 := am' H
       clear H; go_upto_if 47 with (fail)
       go_cut [] (fun wc => ∃ (kq : Nat), Aside0 (laws_FnExactRoundTime.j3 kq l1 t200 l0_0 a0_1 a0_2 t194 t197 t198 = some r) ∧ Aside0 (kq ≤ kj17) ∧ Aside0 (Kd.S (Kd.slice 3 (Kd.int .i64)) 22 wc w.heap.size (fun k_ => some k_ ≠ ((.slice Ao28 t194.length co28) : Value).ownBlock ∧ ¬ D218_ k_) (.slice Ao33 t200.length co33) t200) ∧ Aside0 (Kd.R (Kd.int .i64) 3 wc w.heap.size (fun k_ => ¬ D217_ k_ ∧ D218_ k_) (.slice Ao28 t194.length co28) t194) ∧ Aside0 (wc.heap[gb181]? = some (.cells #[(.slice A0_0 l0_0.length c0_0), .int .i64 a0_1, .int .i64 a0_2] 24 (0, 0))) ∧ Aside0 (wc.heap[gb199]? = some (.cells #[(.slice Ao28 t194.length co28), .int .i64 t197, .int .i64 t198] 31 (0, 0))) ∧ Aside0 (Below w.heap.size w wc))
       case first =>
        have H := HC36.out
        clear HC36; by_cases c37 : x47_17 = true
        ·
         subst c37; have H1 : (some false) = some r := by rw [if_pos rfl] at H; exact H
         clear H; have H := H1; clear H1; obtain rfl := Option.some.inj H
         go_wp2
         go_ret
         exact ⟨by first | rfl | (simp [errW_none, errW_some] <;> rfl) | (simp [*, errW_none, errW_some] <;> rfl), by repeat (first | (with_reducible first | exact HB.out | apply ba' | apply bd' | apply be' | refine bs' ?_ GE181.out | refine bs' ?_ GE199.out) | exact HB.out)⟩
        ·
         replace c37 := Bool.eq_false_iff.mpr c37
         subst c37; have H1 : (laws_FnExactRoundTime.j3 kj17 l1 t200 l0_0 a0_1 a0_2 t194 t197 t198) = some r := by rw [if_neg (show ¬ (false = true) by decide)] at H; exact H
         clear H; have H := H1; clear H1; have H' := am' H
         clear H; go_wp2
         go_meet
         case rel => exact ⟨_, H', ⟨by have := HJ3.out; have := HJ9.out; have := HJ17.out; first | omega | exact Nat.le_refl _⟩, ⟨by (with_reducible repeat (first | apply Kd.S_alloc | apply Kd.S_drewN | apply Kd.S_drew)); exact HO_9.out⟩, ⟨by (with_reducible repeat (first | apply ra' | apply rn' | apply rw')); exact HO_200000.out⟩, ⟨by (with_reducible repeat (first | refine kn' ?_ _ | refine kd' ?_ | refine ka' ?_ _)); exact BK181.out⟩, ⟨by (with_reducible repeat (first | refine kn' ?_ _ | refine kd' ?_ | refine ka' ?_ _)); exact BK199.out⟩, ⟨by repeat (first | (with_reducible first | exact HB.out | apply ba' | apply bd' | apply be' | refine bs' ?_ GE181.out | refine bs' ?_ GE199.out) | exact HB.out)⟩⟩
       case rest =>
        clear HC36; try clear c1
        try clear c2
        try clear p2
        try clear c3
        try clear c4
        try clear c8
        try clear c8b0
        try clear c11
        try clear c11b0
        try clear c15
        try clear c17
        try clear c24
        try clear c25
        try clear c26
        try clear c27
        try clear c29
        try clear c35
        try clear c35b0
        try clear c35b1
        try clear c37
        try clear hcz19_0
        try clear hcz19_1
        try clear hcz19_2
        try clear hcz25_0
        try clear hcz25_1
        try clear hcz25_2
        try clear hcz30_0
        try clear hcz30_1
        try clear hcz30_2
        try clear hcz32_0
        try clear hcz32_1
        try clear hcz32_2
        try clear hcz6_0
        try clear hcz6_1
        try clear hcz6_2
        try clear hfz19_0
        try clear hfz19_1
        try clear hfz19_2
        try clear hfz25_0
        try clear hfz25_1
        try clear hfz25_2
        try clear hfz30_0
        try clear hfz30_1
        try clear hfz30_2
        try clear hfz32_0
        try clear hfz32_1
        try clear hfz32_2
        try clear hfz6_0
        try clear hfz6_1
        try clear hfz6_2
        try clear p2
        obtain ⟨kq, HA, HJ35, HO_9, HO_200000, BK181, BK199, HB⟩ := hcut
        cases kq with
        | zero => exact absurd HA.out (by simp [laws_FnExactRoundTime.j3])
        | succ kj35 =>
         have H := HA.out
         clear HA; simp only [laws_FnExactRoundTime.j3] at H
         replace H := Option.bind_eq_some_iff.mp H
         obtain ⟨⟨t205, t208, t209⟩, A380, H⟩ := H
         replace H : ((laws_eqNight.f kj35 t194 t197 t198 t205 t208 t209).bind fun t210 => (if t210 = true then (laws_FnExactRoundTime.j4 kj35 l1 t200) else (some false))) = some r := H
         have A38 := am' A380
         clear A380; replace H := Option.bind_eq_some_iff.mp H
         obtain ⟨t210, A390, H⟩ := H
         replace H : (if t210 = true then (laws_FnExactRoundTime.j4 kj35 l1 t200) else (some false)) = some r := H
         have A39 := am' A390
         clear A390; have HC40 := am' H
         clear H; try go_wp2
         have n0_ := am' (Kd.S_drew HO_9.out)
         have n1_ := am' (rw' HO_200000.out)
         have n2_ := am' (kd' BK181.out)
         have n3_ := am' (kd' BK199.out)
         have n4_ := am' (be' HB.out)
         clear HO_9; clear HO_200000; clear BK181; clear BK199; clear HB; have HO_9 := n0_; have HO_200000 := n1_; have BK181 := n2_; have BK199 := n3_; have HB := n4_; clear n0_ n1_ n2_ n3_ n4_; refine start_ (n := 5) (S := fun w' => w'.cell? ⟨gb199, 0, none⟩ = some (.slice Ao28 t194.length co28) ∧ w'.cell? ⟨gb199, 1, none⟩ = some (.int .i64 t197) ∧ w'.cell? ⟨gb199, 2, none⟩ = some (.int .i64 t198) ∧ w'.cell? ⟨gb181, 0, none⟩ = some (.slice A0_0 l0_0.length c0_0) ∧ w'.cell? ⟨gb181, 1, none⟩ = some (.int .i64 a0_1) ∧ w'.cell? ⟨gb181, 2, none⟩ = some (.int .i64 a0_2)) (ds := []) #[false, false, false, false, false] (by kernel_rfl) rfl rfl ⟨(blk_cell BK199.out 0).trans rfl, (blk_cell BK199.out 1).trans rfl, (blk_cell BK199.out 2).trans rfl, (blk_cell BK181.out 0).trans rfl, (blk_cell BK181.out 1).trans rfl, (blk_cell BK181.out 2).trans rfl⟩ (fun hHeld => ?_)
         generalize wc.drew = w41 at HO_9 HO_200000 BK181 BK199 HB hHeld ⊢
         refine take_ (i := 0) (N := some 48) (v := ?_) (a' := ?_) #[true, false, false, false, false] rfl rfl (by kernel_rfl) (fun _ _ _ h => h) (Or.inl ⟨by rfl, ?_⟩) hHeld ?_ ?_
         rotate_left
         ·
          rintro w' ⟨s0, s1, s2, s3, s4, s5⟩
          go_simp; with_reducible rfl
         rotate_left
         ·
          simp only [Act.put, sa', sb', sc', i64_w, i32_w]
          rfl
         refine take_ (i := 1) (N := some 49) (v := ?_) (a' := ?_) #[true, true, false, false, false] rfl rfl (by kernel_rfl) (fun _ _ _ h => h) (Or.inl ⟨by rfl, ?_⟩) hHeld ?_ ?_
         rotate_left
         ·
          rintro w' ⟨s0, s1, s2, s3, s4, s5⟩
          go_simp; with_reducible rfl
         rotate_left
         ·
          simp only [Act.put, sa', sb', sc', i64_w, i32_w]
          rfl
         refine one_ (i := 2) (N := some 50) #[true, true, true, false, false] rfl rfl (by kernel_rfl) (by decide) (fun K hK => ?_)
         refine goes_ Try.func17 (by kernel_rfl) rfl #[.agg #[.slice A0_0 l0_0.length c0_0, .int .i64 a0_1, .int .i64 a0_2]] (by rfl) rfl rfl (by (try simp only [List.map_toArray, List.map_cons, List.map_nil]); first | done | rfl | (simp only [List.length_drop, List.length_take]; rfl)) ?_
         with_reducible refine (laws_toNight.calls kj35 _ _ l0_0 a0_1 a0_2 t205 t208 t209 _ ?side1 ?side2 A38.out).mono ?_
         (case side1 => repeat (first | exact (Kd.C_below HR0_0.out HB.out) | (with_reducible refine ca' ?_ _) | (with_reducible refine cn' ?_ _) | (with_reducible refine cd' ?_)))
         (case side2 => exact HC0_0.out)
         rintro e w42 ⟨v206, rfl, ho0, hb⟩
         refine ⟨_, rfl, ?_⟩
         have n0_ := am' (Kd.S_elder' (by (with_reducible repeat (first | apply Kd.S_alloc | apply Kd.S_drewN | apply Kd.S_drew)); exact HO_9.out) (Kd.R_base ho0) hb)
         have n1_ := am' (Kd.R_elder' (by (with_reducible repeat (first | apply ra' | apply rn' | apply rw')); exact HO_200000.out) (Kd.R_base ho0) hb)
         have n2_ := am' (Kd.R_lower (Kd.R_new' ho0 (Kd.R_lt (by (with_reducible repeat (first | apply ra' | apply rn' | apply rw')); exact HO_200000.out))) (below_size (by repeat (first | (with_reducible first | exact HB.out | apply ba' | apply bd' | apply be' | refine bs' ?_ GE181.out | refine bs' ?_ GE199.out) | exact HB.out))))
         have n3_ := am' (blk_below (g := gb181) (o := .cells #[.slice A0_0 l0_0.length c0_0, .int .i64 a0_1, .int .i64 a0_2] 24 (0, 0)) (by (with_reducible repeat (first | refine kn' ?_ _ | refine kd' ?_ | refine ka' ?_ _)); exact BK181.out) hb)
         have n4_ := am' (blk_below (g := gb199) (o := .cells #[.slice Ao28 t194.length co28, .int .i64 t197, .int .i64 t198] 31 (0, 0)) (by (with_reducible repeat (first | refine kn' ?_ _ | refine kd' ?_ | refine ka' ?_ _)); exact BK199.out) hb)
         have n5_ := am' (below_step (by repeat (first | (with_reducible first | exact HB.out | apply ba' | apply bd' | apply be' | refine bs' ?_ GE181.out | refine bs' ?_ GE199.out) | exact HB.out)) hb)
         clear HO_9; clear HO_200000; clear BK181; clear BK199; clear HB; have HO_9 := n0_; have HO_200000 := n1_; have HO207 := n2_; have BK181 := n3_; have BK199 := n4_; have HB := n5_; clear n0_ n1_ n2_ n3_ n4_ n5_; (try clear hb)
         (try clear hb2)
         (try clear hk)
         (try clear hi)
         (try clear ho0)
         obtain ⟨Ao43, co43, eo43⟩ := Kd.R_slice HO207.out
         (first | subst eo43 | (injection eo43 with f1_ f2_ f3_; have f4_ := f1_.symm; have f5_ := f3_.symm; clear f1_ f2_ f3_; subst f4_; subst f5_))
         refine hK.out _ _ ⟨(blk_cell BK199.out 0).trans rfl, (blk_cell BK199.out 1).trans rfl, (blk_cell BK199.out 2).trans rfl, (blk_cell BK181.out 0).trans rfl, (blk_cell BK181.out 1).trans rfl, (blk_cell BK181.out 2).trans rfl⟩ (fun hHeld => ?_)
         clear hK K; refine norm_ (a' := ?_) ?_ ?_
         rotate_left
         ·
          show Act.put _ (some 50) _ = _
          simp only [Act.put, sa', sb', sc', i64_w, i32_w]
          rfl
         refine one_ (i := 3) (N := some 51) #[true, true, true, true, false] rfl rfl (by kernel_rfl) (by decide) (fun K hK => ?_)
         refine goes_ Try.func20 (by kernel_rfl) rfl #[.agg #[.slice Ao28 t194.length co28, .int .i64 t197, .int .i64 t198], .agg #[.slice Ao43 t205.length co43, .int .i64 t208, .int .i64 t209]] (by rfl) rfl rfl (by (try simp only [List.map_toArray, List.map_cons, List.map_nil]); first | done | rfl | (simp only [List.length_drop, List.length_take]; rfl)) ?_
         with_reducible refine (laws_eqNight.calls kj35 _ _ t194 t197 t198 _ _ t205 t208 t209 t210 _ ?side1 ?side2 ?side3 ?side4 A39.out).mono ?_
         (case side1 => repeat (first | exact (Kd.R_reads' HO_200000.out).2.2 | (with_reducible refine ca' ?_ _) | (with_reducible refine cn' ?_ _) | (with_reducible refine cd' ?_)))
         (case side2 => exact (Kd.R_reads' HO_200000.out).2.1)
         (case side3 => repeat (first | exact (Kd.R_reads' HO207.out).2.2 | (with_reducible refine ca' ?_ _) | (with_reducible refine cn' ?_ _) | (with_reducible refine cd' ?_)))
         (case side4 => exact (Kd.R_reads' HO207.out).2.1)
         rintro e w44 ⟨rfl, hb⟩
         refine ⟨_, rfl, ?_⟩
         have n0_ := am' (Kd.S_below (by (with_reducible repeat (first | apply Kd.S_alloc | apply Kd.S_drewN | apply Kd.S_drew)); exact HO_9.out) hb)
         have n1_ := am' (Kd.R_below (by (with_reducible repeat (first | apply ra' | apply rn' | apply rw')); exact HO_200000.out) hb)
         have n2_ := am' (Kd.R_below (by (with_reducible repeat (first | apply ra' | apply rn' | apply rw')); exact HO207.out) hb)
         have n3_ := am' (blk_below (g := gb181) (o := .cells #[.slice A0_0 l0_0.length c0_0, .int .i64 a0_1, .int .i64 a0_2] 24 (0, 0)) (by (with_reducible repeat (first | refine kn' ?_ _ | refine kd' ?_ | refine ka' ?_ _)); exact BK181.out) hb)
         have n4_ := am' (blk_below (g := gb199) (o := .cells #[.slice Ao28 t194.length co28, .int .i64 t197, .int .i64 t198] 31 (0, 0)) (by (with_reducible repeat (first | refine kn' ?_ _ | refine kd' ?_ | refine ka' ?_ _)); exact BK199.out) hb)
         have n5_ := am' (below_step (by repeat (first | (with_reducible first | exact HB.out | apply ba' | apply bd' | apply be' | refine bs' ?_ GE181.out | refine bs' ?_ GE199.out) | exact HB.out)) hb)
         clear HO_9; clear HO_200000; clear HO207; clear BK181; clear BK199; clear HB; have HO_9 := n0_; have HO_200000 := n1_; have HO207 := n2_; have BK181 := n3_; have BK199 := n4_; have HB := n5_; clear n0_ n1_ n2_ n3_ n4_ n5_; (try clear hb)
         (try clear hb2)
         (try clear hk)
         (try clear hi)
         refine hK.out _ _ ⟨(blk_cell BK199.out 0).trans rfl, (blk_cell BK199.out 1).trans rfl, (blk_cell BK199.out 2).trans rfl, (blk_cell BK181.out 0).trans rfl, (blk_cell BK181.out 1).trans rfl, (blk_cell BK181.out 2).trans rfl⟩ (fun hHeld => ?_)
         clear hK K; refine norm_ (a' := ?_) ?_ ?_
         rotate_left
         ·
          show Act.put _ (some 51) _ = _
          simp only [Act.put, sa', sb', sc', i64_w, i32_w]
          rfl
         refine pure_ (i := 4) (N := some 52) (v := ?_) (a' := ?_) #[true, true, true, true, true] rfl rfl (by kernel_rfl) (fun _ _ _ h => h) (Or.inl ⟨by rfl, ?_⟩) ?_ ?_
         rotate_left
         ·
          intro w'; go_simp; with_reducible rfl
         rotate_left
         ·
          simp only [Act.put, sa', sb', sc', i64_w, i32_w]
          rfl
         refine done_ (by kernel_rfl) ?_
         go_upto_if 52 with (fail)
         go_cut [] (fun wc => ∃ (kq : Nat), Aside0 (laws_FnExactRoundTime.j4 kq l1 t200 = some r) ∧ Aside0 (kq ≤ kj35) ∧ Aside0 (Kd.S (Kd.slice 3 (Kd.int .i64)) 22 wc w.heap.size (fun k_ => some k_ ≠ ((.slice Ao28 t194.length co28) : Value).ownBlock ∧ ¬ D218_ k_) (.slice Ao33 t200.length co33) t200) ∧ Aside0 (Kd.R (Kd.int .i64) 3 wc w.heap.size (fun k_ => ¬ D217_ k_ ∧ D218_ k_) (.slice Ao28 t194.length co28) t194) ∧ Aside0 (wc.heap[gb181]? = some (.cells #[(.slice A0_0 l0_0.length c0_0), .int .i64 a0_1, .int .i64 a0_2] 24 (0, 0))) ∧ Aside0 (wc.heap[gb199]? = some (.cells #[(.slice Ao28 t194.length co28), .int .i64 t197, .int .i64 t198] 31 (0, 0))) ∧ Aside0 (Below w.heap.size w wc))
         case first =>
          have H := HC40.out
          clear HC40; by_cases c45 : t210 = true
          ·
           subst c45; have H1 : (laws_FnExactRoundTime.j4 kj35 l1 t200) = some r := by rw [if_pos rfl] at H; exact H
           clear H; have H := H1; clear H1; have H' := am' H
           clear H; go_wp2
           go_meet
           case rel => exact ⟨_, H', ⟨by have := HJ3.out; have := HJ9.out; have := HJ17.out; have := HJ35.out; first | omega | exact Nat.le_refl _⟩, ⟨by (with_reducible repeat (first | apply Kd.S_alloc | apply Kd.S_drewN | apply Kd.S_drew)); exact Kd.S_mono HO_9.out (fun _ hk => ⟨hk.1.1, hk.1.2⟩)⟩, ⟨by (with_reducible repeat (first | apply ra' | apply rn' | apply rw')); exact Kd.R_mono HO_200000.out (fun _ hk => ⟨hk.1.1, hk.1.2⟩)⟩, ⟨by (with_reducible repeat (first | refine kn' ?_ _ | refine kd' ?_ | refine ka' ?_ _)); exact BK181.out⟩, ⟨by (with_reducible repeat (first | refine kn' ?_ _ | refine kd' ?_ | refine ka' ?_ _)); exact BK199.out⟩, ⟨by repeat (first | (with_reducible first | exact HB.out | apply ba' | apply bd' | apply be' | refine bs' ?_ GE181.out | refine bs' ?_ GE199.out) | exact HB.out)⟩⟩
          ·
           replace c45 := Bool.eq_false_iff.mpr c45
           subst c45; have H1 : (some false) = some r := by rw [if_neg (show ¬ (false = true) by decide)] at H; exact H
           clear H; have H := H1; clear H1; obtain rfl := Option.some.inj H
           go_wp2
           go_ret
           exact ⟨by first | rfl | (simp [errW_none, errW_some] <;> rfl) | (simp [*, errW_none, errW_some] <;> rfl), by repeat (first | (with_reducible first | exact HB.out | apply ba' | apply bd' | apply be' | refine bs' ?_ GE181.out | refine bs' ?_ GE199.out) | exact HB.out)⟩
         case rest =>
          clear HC40; try clear c1
          try clear c2
          try clear p2
          try clear c3
          try clear c4
          try clear c8
          try clear c8b0
          try clear c11
          try clear c11b0
          try clear c15
          try clear c17
          try clear c20
          try clear c24
          try clear c25
          try clear c26
          try clear c27
          try clear c29
          try clear c35
          try clear c35b0
          try clear c35b1
          try clear c37
          try clear c45
          try clear hcz19_0
          try clear hcz19_1
          try clear hcz19_2
          try clear hcz25_0
          try clear hcz25_1
          try clear hcz25_2
          try clear hcz30_0
          try clear hcz30_1
          try clear hcz30_2
          try clear hcz32_0
          try clear hcz32_1
          try clear hcz32_2
          try clear hcz6_0
          try clear hcz6_1
          try clear hcz6_2
          try clear hfz19_0
          try clear hfz19_1
          try clear hfz19_2
          try clear hfz25_0
          try clear hfz25_1
          try clear hfz25_2
          try clear hfz30_0
          try clear hfz30_1
          try clear hfz30_2
          try clear hfz32_0
          try clear hfz32_1
          try clear hfz32_2
          try clear hfz6_0
          try clear hfz6_1
          try clear hfz6_2
          try clear p2
          obtain ⟨kq, HA, HJ39, HO_9, HO_200000, BK181, BK199, HB⟩ := hcut
          cases kq with
          | zero => exact absurd HA.out (by simp [laws_FnExactRoundTime.j4])
          | succ kj39 =>
           have H := HA.out
           clear HA; simp only [laws_FnExactRoundTime.j4] at H
           replace H := Option.bind_eq_some_iff.mp H
           obtain ⟨t211, A460, H⟩ := H
           replace H : ((laws_eqIntSS.f kj39 t200 t211).bind fun t214 => (if t214 = true then (some true) else (some false))) = some r := H
           have A46 := am' A460
           clear A460; replace H := Option.bind_eq_some_iff.mp H
           obtain ⟨t214, A470, H⟩ := H
           replace H : (if t214 = true then (some true) else (some false)) = some r := H
           have A47 := am' A470
           clear A470; by_cases c48 : t214 = true
           ·
            subst c48; have H1 : (some true) = some r := by rw [if_pos rfl] at H; exact H
            clear H; have H := H1; clear H1; obtain rfl := Option.some.inj H
            go_wp2_with (first | ((with_reducible refine gate_callee (f := 26) rfl ?_); refine goesL_ (some 55) rfl rfl Try.func26 (by kernel_rfl) rfl #[.slice A1 l1.length c1] rfl (by (try simp only [List.map_toArray, List.map_cons, List.map_nil]); first | done | rfl | (simp only [List.length_drop, List.length_take]; rfl)) ?_; (with_reducible refine (laws_toIntSS.calls kj39 _ _ l1 t211 _ ?side1 ?side2 A46.out).mono ?_); (case side1 => repeat (first | exact (Kd.C_below HR1.out HB.out) | (with_reducible refine ca' ?_ _) | (with_reducible refine cn' ?_ _) | (with_reducible refine cd' ?_))); (case side2 => exact HC1.out); rintro e w49 ⟨v212, rfl, ho0, hb⟩; refine ⟨_, rfl, ?_⟩; obtain ⟨D219_, hdl_, hdg_⟩ := dlt_of hb; have D219_lt := am' hdl_; have D219_ge := am' hdg_; clear hdl_ hdg_; have n0_ := am' (Kd.S_elder' (Kd.S_dlt (by (with_reducible repeat (first | apply Kd.S_alloc | apply Kd.S_drewN | apply Kd.S_drew)); exact HO_9.out) D219_lt.out) (Kd.S_base ho0) hb); have n1_ := am' (Kd.R_below (Kd.R_dlt (by (with_reducible repeat (first | apply ra' | apply rn' | apply rw')); exact HO_200000.out) D219_lt.out) hb); have n2_ := am' (Kd.S_lower (Kd.S_new' (Kd.S_new' (Kd.S_dge ho0 D219_ge.out) (Kd.S_lt (by (with_reducible repeat (first | apply Kd.S_alloc | apply Kd.S_drewN | apply Kd.S_drew)); exact HO_9.out))) (Kd.R_lt (by (with_reducible repeat (first | apply ra' | apply rn' | apply rw')); exact HO_200000.out))) (below_size (by repeat (first | (with_reducible first | exact HB.out | apply ba' | apply bd' | apply be' | refine bs' ?_ GE181.out | refine bs' ?_ GE199.out) | exact HB.out)))); have n3_ := am' (blk_below (g := gb181) (o := .cells #[.slice A0_0 l0_0.length c0_0, .int .i64 a0_1, .int .i64 a0_2] 24 (0, 0)) (by (with_reducible repeat (first | refine kn' ?_ _ | refine kd' ?_ | refine ka' ?_ _)); exact BK181.out) hb); have n4_ := am' (blk_below (g := gb199) (o := .cells #[.slice Ao28 t194.length co28, .int .i64 t197, .int .i64 t198] 31 (0, 0)) (by (with_reducible repeat (first | refine kn' ?_ _ | refine kd' ?_ | refine ka' ?_ _)); exact BK199.out) hb); have n5_ := am' (below_step (by repeat (first | (with_reducible first | exact HB.out | apply ba' | apply bd' | apply be' | refine bs' ?_ GE181.out | refine bs' ?_ GE199.out) | exact HB.out)) hb); clear HO_9; clear HO_200000; clear BK181; clear BK199; clear HB; have HO_9 := n0_; have HO_200000 := n1_; have HO213 := n2_; have BK181 := n3_; have BK199 := n4_; have HB := n5_; clear n0_ n1_ n2_ n3_ n4_ n5_; (try clear hb); (try clear hb2); (try clear hk); (try clear hi); (try clear ho0); obtain ⟨Ao50, co50, eo50⟩ := Kd.S_slice HO213.out; subst eo50) | ((with_reducible refine gate_callee (f := 28) rfl ?_); refine goesL_ (some 56) rfl rfl Try.func28 (by kernel_rfl) rfl #[.slice Ao33 t200.length co33, .slice Ao50 t211.length co50] rfl (by (try simp only [List.map_toArray, List.map_cons, List.map_nil]); first | done | rfl | (simp only [List.length_drop, List.length_take]; rfl)) ?_; (with_reducible refine (laws_eqIntSS.calls kj39 _ _ t200 _ _ t211 true _ ?side1 ?side2 ?side3 ?side4 A47.out).mono ?_); (case side1 => repeat (first | exact (Kd.S_reads' HO_9.out).2.2 | (with_reducible refine ca' ?_ _) | (with_reducible refine cn' ?_ _) | (with_reducible refine cd' ?_))); (case side2 => exact (Kd.S_reads' HO_9.out).2.1); (case side3 => repeat (first | exact (Kd.S_reads' HO213.out).2.2 | (with_reducible refine ca' ?_ _) | (with_reducible refine cn' ?_ _) | (with_reducible refine cd' ?_))); (case side4 => exact (Kd.S_reads' HO213.out).2.1); rintro e w' ⟨rfl, ⟨nd, rfl⟩⟩; refine ⟨_, rfl, ?_⟩))
            go_ret
            exact ⟨by first | rfl | (simp [errW_none, errW_some] <;> rfl) | (simp [*, errW_none, errW_some] <;> rfl), by repeat (first | (with_reducible first | exact HB.out | apply ba' | apply bd' | apply be' | refine bs' ?_ GE181.out | refine bs' ?_ GE199.out) | exact HB.out)⟩
           ·
            replace c48 := Bool.eq_false_iff.mpr c48
            subst c48; have H1 : (some false) = some r := by rw [if_neg (show ¬ (false = true) by decide)] at H; exact H
            clear H; have H := H1; clear H1; obtain rfl := Option.some.inj H
            go_wp2_with (first | ((with_reducible refine gate_callee (f := 26) rfl ?_); refine goesL_ (some 55) rfl rfl Try.func26 (by kernel_rfl) rfl #[.slice A1 l1.length c1] rfl (by (try simp only [List.map_toArray, List.map_cons, List.map_nil]); first | done | rfl | (simp only [List.length_drop, List.length_take]; rfl)) ?_; (with_reducible refine (laws_toIntSS.calls kj39 _ _ l1 t211 _ ?side1 ?side2 A46.out).mono ?_); (case side1 => repeat (first | exact (Kd.C_below HR1.out HB.out) | (with_reducible refine ca' ?_ _) | (with_reducible refine cn' ?_ _) | (with_reducible refine cd' ?_))); (case side2 => exact HC1.out); rintro e w51 ⟨v212, rfl, ho0, hb⟩; refine ⟨_, rfl, ?_⟩; obtain ⟨D220_, hdl_, hdg_⟩ := dlt_of hb; have D220_lt := am' hdl_; have D220_ge := am' hdg_; clear hdl_ hdg_; have n0_ := am' (Kd.S_elder' (Kd.S_dlt (by (with_reducible repeat (first | apply Kd.S_alloc | apply Kd.S_drewN | apply Kd.S_drew)); exact HO_9.out) D220_lt.out) (Kd.S_base ho0) hb); have n1_ := am' (Kd.R_below (Kd.R_dlt (by (with_reducible repeat (first | apply ra' | apply rn' | apply rw')); exact HO_200000.out) D220_lt.out) hb); have n2_ := am' (Kd.S_lower (Kd.S_new' (Kd.S_new' (Kd.S_dge ho0 D220_ge.out) (Kd.S_lt (by (with_reducible repeat (first | apply Kd.S_alloc | apply Kd.S_drewN | apply Kd.S_drew)); exact HO_9.out))) (Kd.R_lt (by (with_reducible repeat (first | apply ra' | apply rn' | apply rw')); exact HO_200000.out))) (below_size (by repeat (first | (with_reducible first | exact HB.out | apply ba' | apply bd' | apply be' | refine bs' ?_ GE181.out | refine bs' ?_ GE199.out) | exact HB.out)))); have n3_ := am' (blk_below (g := gb181) (o := .cells #[.slice A0_0 l0_0.length c0_0, .int .i64 a0_1, .int .i64 a0_2] 24 (0, 0)) (by (with_reducible repeat (first | refine kn' ?_ _ | refine kd' ?_ | refine ka' ?_ _)); exact BK181.out) hb); have n4_ := am' (blk_below (g := gb199) (o := .cells #[.slice Ao28 t194.length co28, .int .i64 t197, .int .i64 t198] 31 (0, 0)) (by (with_reducible repeat (first | refine kn' ?_ _ | refine kd' ?_ | refine ka' ?_ _)); exact BK199.out) hb); have n5_ := am' (below_step (by repeat (first | (with_reducible first | exact HB.out | apply ba' | apply bd' | apply be' | refine bs' ?_ GE181.out | refine bs' ?_ GE199.out) | exact HB.out)) hb); clear HO_9; clear HO_200000; clear BK181; clear BK199; clear HB; have HO_9 := n0_; have HO_200000 := n1_; have HO213 := n2_; have BK181 := n3_; have BK199 := n4_; have HB := n5_; clear n0_ n1_ n2_ n3_ n4_ n5_; (try clear hb); (try clear hb2); (try clear hk); (try clear hi); (try clear ho0); obtain ⟨Ao52, co52, eo52⟩ := Kd.S_slice HO213.out; subst eo52) | ((with_reducible refine gate_callee (f := 28) rfl ?_); refine goesL_ (some 56) rfl rfl Try.func28 (by kernel_rfl) rfl #[.slice Ao33 t200.length co33, .slice Ao52 t211.length co52] rfl (by (try simp only [List.map_toArray, List.map_cons, List.map_nil]); first | done | rfl | (simp only [List.length_drop, List.length_take]; rfl)) ?_; (with_reducible refine (laws_eqIntSS.calls kj39 _ _ t200 _ _ t211 false _ ?side1 ?side2 ?side3 ?side4 A47.out).mono ?_); (case side1 => repeat (first | exact (Kd.S_reads' HO_9.out).2.2 | (with_reducible refine ca' ?_ _) | (with_reducible refine cn' ?_ _) | (with_reducible refine cd' ?_))); (case side2 => exact (Kd.S_reads' HO_9.out).2.1); (case side3 => repeat (first | exact (Kd.S_reads' HO213.out).2.2 | (with_reducible refine ca' ?_ _) | (with_reducible refine cn' ?_ _) | (with_reducible refine cd' ?_))); (case side4 => exact (Kd.S_reads' HO213.out).2.1); rintro e w' ⟨rfl, ⟨nd, rfl⟩⟩; refine ⟨_, rfl, ?_⟩))
            go_ret
            exact ⟨by first | rfl | (simp [errW_none, errW_some] <;> rfl) | (simp [*, errW_none, errW_some] <;> rfl), by repeat (first | (with_reducible first | exact HB.out | apply ba' | apply bd' | apply be' | refine bs' ?_ GE181.out | refine bs' ?_ GE199.out) | exact HB.out)⟩
end Go.Proofs.Ytpobeakggacdpaa.C5
