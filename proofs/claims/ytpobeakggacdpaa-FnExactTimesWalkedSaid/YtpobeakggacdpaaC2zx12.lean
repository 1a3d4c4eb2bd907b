import Derived.Test.YtpobeakggacdpaaC2zx0
import Derived.Test.YtpobeakggacdpaaC2zx1
import Derived.Test.YtpobeakggacdpaaC2zx2
import Derived.Test.YtpobeakggacdpaaC2zx7
import Derived.Test.YtpobeakggacdpaaC2zx11
namespace Go.Proofs.Ytpobeakggacdpaa.C2
open Go.RowKit Go.Proofs.YtpobeakggacdpaaW.PrintWords Go.Proofs.YtpobeakggacdpaaW.PrintLast Go.Proofs.YtpobeakggacdpaaW.PrintMore Go.Proofs.Ytpobeakggacdpaa.H
attribute [local go_sem] max2_int min2_int max_two min_two max_three min_three max_four min_four
set_option linter.unusedVariables false
set_option linter.unusedSimpArgs false
mutual
def laws_FnExactTimesWalked.j0 : Nat → List (List Int) → Int → List Int → Int → Option (Bool)
 | 0, _, _, _, _ => none
 | k + 1, x1, x5, x287000, x287001 => (laws_szIntSS.f k x1 x5).bind fun t288 => (if t288 < 0 then (some true) else (laws_FnExactTimesWalked.j1 k x1 x287000 x287001))
def laws_FnExactTimesWalked.j1 : Nat → List (List Int) → List Int → Int → Option (Bool)
 | 0, _, _, _ => none
 | k + 1, x1, x287000, x287001 => (laws_toParty.f k x287000 x287001).bind fun bt289 => ((laws_toIntSS.f k x1).bind fun t293 => ((spec_TimesWalked.f k bt289.1 bt289.2 t293).bind fun bt296 => ((laws_toParty.f k x287000 x287001).bind fun bt300 => ((laws_toIntSS.f k x1).bind fun t305 => ((impl_TimesWalked.f k bt300.1 bt300.2 t305).bind fun bt308 => ((laws_eqIntS.f k bt308.1 bt296.1).bind fun t312 => (if t312 = true then (laws_FnExactTimesWalked.j2 k x1 bt296.1 bt296.2 t305 bt308.1 bt308.2 (bt308.2 != bt296.2) x287000 x287001 bt300.1 bt300.2) else (laws_FnExactTimesWalked.j2 k x1 bt296.1 bt296.2 t305 bt308.1 bt308.2 true x287000 x287001 bt300.1 bt300.2))))))))
def laws_FnExactTimesWalked.j2 : Nat → List (List Int) → List Int → Bool → List (List Int) → List Int → Bool → Bool → List Int → Int → List Int → Int → Option (Bool)
 | 0, _, _, _, _, _, _, _, _, _, _, _ => none
 | k + 1, x1, x6, x7, x9, x10, x11, x53, x287000, x287001, x305000, x305001 => if x53 = true then (some false) else (laws_FnExactTimesWalked.j3 k x1 x6 x7 x9 x10 x11 x287000 x287001 x305000 x305001)
def laws_FnExactTimesWalked.j3 : Nat → List (List Int) → List Int → Bool → List (List Int) → List Int → Bool → List Int → Int → List Int → Int → Option (Bool)
 | 0, _, _, _, _, _, _, _, _, _, _ => none
 | k + 1, x1, x6, x7, x9, x10, x11, x287000, x287001, x305000, x305001 => (laws_toParty.f k x287000 x287001).bind fun bt313 => ((laws_eqParty.f k x305000 x305001 bt313.1 bt313.2).bind fun t317 => (if t317 = true then (laws_FnExactTimesWalked.j4 k x1 x6 x7 x9 x10 x11 x287000 x287001 x305000 x305001) else (some false)))
def laws_FnExactTimesWalked.j4 : Nat → List (List Int) → List Int → Bool → List (List Int) → List Int → Bool → List Int → Int → List Int → Int → Option (Bool)
 | 0, _, _, _, _, _, _, _, _, _, _ => none
 | k + 1, x1, x6, x7, x9, x10, x11, x287000, x287001, x305000, x305001 => (laws_toIntSS.f k x1).bind fun t318 => ((laws_eqIntSS.f k x9 t318).bind fun t321 => (if t321 = true then (laws_FnExactTimesWalked.j5 k x1 x6 x7 x9 x10 x11 x287000 x287001 x305000 x305001) else (some false)))
def laws_FnExactTimesWalked.j5 : Nat → List (List Int) → List Int → Bool → List (List Int) → List Int → Bool → List Int → Int → List Int → Int → Option (Bool)
 | 0, _, _, _, _, _, _, _, _, _, _ => none
 | k + 1, x1, x6, x7, x9, x10, x11, x287000, x287001, x305000, x305001 => (laws_markParty.f k x305000 x305001 1).bind fun bt322 => ((laws_markIntSS.f x9 bt322.1).bind fun bt324 => (if bt324.1 < 0 then (laws_FnExactTimesWalked.j6 k x1 x6 x7 x10 true x287000 x287001) else ((laws_eqIntS.f k x10 x6).bind fun t326 => (if t326 = true then (laws_FnExactTimesWalked.j6 k x1 x6 x7 x10 (x11 != x7) x287000 x287001) else (laws_FnExactTimesWalked.j6 k x1 x6 x7 x10 true x287000 x287001)))))
def laws_FnExactTimesWalked.j6 : Nat → List (List Int) → List Int → Bool → List Int → Bool → List Int → Int → Option (Bool)
 | 0, _, _, _, _, _, _, _ => none
 | k + 1, x1, x6, x7, x10, x82, x287000, x287001 => if x82 = true then (some false) else (laws_FnExactTimesWalked.j7 k x1 x6 x7 x10 x287000 x287001)
def laws_FnExactTimesWalked.j7 : Nat → List (List Int) → List Int → Bool → List Int → List Int → Int → Option (Bool)
 | 0, _, _, _, _, _, _ => none
 | k + 1, x1, x6, x7, x10, x287000, x287001 => (laws_markIntS.f k x10 1).bind fun bt327 => ((laws_heldIntS.f k bt327.2 1).bind fun t329 => (if t329 < 0 then (some false) else (laws_FnExactTimesWalked.j8 k x1 x6 x7 bt327.2 bt327.1 t329 x287000 x287001)))
def laws_FnExactTimesWalked.j8 : Nat → List (List Int) → List Int → Bool → List Int → Int → Int → List Int → Int → Option (Bool)
 | 0, _, _, _, _, _, _, _, _ => none
 | k + 1, x1, x6, x7, x10, x13, x14, x287000, x287001 => if x14 = x13 then (laws_FnExactTimesWalked.j9 k x1 x6 x7 x10 x13 x287000 x287001) else (some false)
def laws_FnExactTimesWalked.j9 : Nat → List (List Int) → List Int → Bool → List Int → Int → List Int → Int → Option (Bool)
 | 0, _, _, _, _, _, _, _ => none
 | k + 1, x1, x6, x7, x10, x13, x287000, x287001 => (laws_toParty.f k x287000 x287001).bind fun bt330 => ((laws_toIntSS.f k x1).bind fun t334 => ((impl_TimesWalked.f k bt330.1 bt330.2 t334).bind fun bt337 => ((laws_eqIntS.f k bt337.1 x6).bind fun t341 => (if t341 = true then (laws_FnExactTimesWalked.j10 k x10 x13 (bt337.2 != x7)) else (laws_FnExactTimesWalked.j10 k x10 x13 true)))))
def laws_FnExactTimesWalked.j10 : Nat → List Int → Int → Bool → Option (Bool)
 | 0, _, _, _ => none
 | k + 1, x10, x13, x110 => if x110 = true then (some false) else (laws_FnExactTimesWalked.j11 k x10 x13)
def laws_FnExactTimesWalked.j11 : Nat → List Int → Int → Option (Bool)
 | 0, _, _ => none
 | k + 1, x10, x13 => (laws_heldIntS.f k x10 1).bind fun t342 => (if t342 < 0 then (some false) else (if t342 = x13 then (some true) else (some false)))
end
def laws_FnExactTimesWalked.f (k : Nat) (l0_0 : List Int) (a0_1 : Int) (l1 : List (List Int)) : Option (Bool) := (laws_szParty.f l0_0 a0_1 1048576).bind fun t287 => (if t287 < 0 then (some true) else (laws_FnExactTimesWalked.j0 k l1 t287 l0_0 a0_1))
set_option maxHeartbeats 8000000 in
set_option maxRecDepth 100000 in
theorem laws_FnExactTimesWalked.calls (k : Nat) (A0_0 : Option Addr) (c0_0 : Nat) (l0_0 : List Int) (a0_1 : Int) (A1 : Option Addr) (c1 : Nat) (l1 : List (List Int)) (r : Bool) (w : World) (hr0_0 : Kd.C (Kd.int .i64) w A0_0 l0_0.length l0_0) (hc0_0 : l0_0.length ≤ c0_0) (hr1 : Kd.C (Kd.slice 3 (Kd.int .i64)) w A1 l1.length l1) (hc1 : l1.length ≤ c1) (h : laws_FnExactTimesWalked.f k l0_0 a0_1 l1 = some r) :
  Calls Try.prog 14 #[.agg #[.slice A0_0 l0_0.length c0_0, .int .i64 a0_1], .slice A1 l1.length c1] w fun e w' => e = .returned (.bool r) ∧ Below w.heap.size w w' := by
 have hu62 := Try.underlying62
 have hu69 := Try.underlying69
 have HR0_0 := Aside0.mk hr0_0
 have HC0_0 := Aside0.mk hc0_0
 clear hr0_0 hc0_0
 have HR1 := Aside0.mk hr1
 have HC1 := Aside0.mk hc1
 clear hr1 hc1
 have HB := Aside0.mk (Below.refl w.heap.size w)
 have H : ((laws_szParty.f l0_0 a0_1 1048576).bind fun t287 => (if t287 < 0 then (some true) else (laws_FnExactTimesWalked.j0 k l1 t287 l0_0 a0_1))) = some r := h
 clear h
 replace H := Option.bind_eq_some_iff.mp H
 obtain ⟨t287, A30, H⟩ := H
 replace H : (if t287 < 0 then (some true) else (laws_FnExactTimesWalked.j0 k l1 t287 l0_0 a0_1)) = some r := H
 have A3 := Aside0.mk A30
 clear A30
 have HC4 := Aside0.mk H
 clear H
 go_enter Try.func14, Try.ntmps14
 go_upto_if 21 with (first | ((with_reducible refine gate_dst (N := 2) rfl ?_); refine box_event ?hg (N := 2) ?hd (cs := #[.slice A0_0 l0_0.length c0_0, .int .i64 a0_1]) (t := 62) ?hr ?_; (case hd => rfl); (case hg => rfl); (case hr => first | (go_simp; done) | (go_simp; rfl)); intro gb286 hg w5 hbox hb; have n0_ := Aside0.mk (below_step (by repeat (first | (with_reducible first | exact HB.out | apply below_alloc | apply pw_below_drewN | apply below_drew1) | exact HB.out)) hb); have n1_ := Aside0.mk (hbox); have n2_ := Aside0.mk ((by rw [hg]; exact (below_size (by repeat (first | (with_reducible first | exact HB.out | apply below_alloc | apply pw_below_drewN | apply below_drew1) | exact HB.out))) : w.heap.size ≤ gb286)); have n3_ := Aside0.mk ((by rw [hg]; exact (below_size (by repeat (first | (with_reducible first | exact HB.out | apply below_alloc | apply pw_below_drewN | apply below_drew1) | exact HB.out))) : w.heap.size ≤ gb286)); clear HB; have HB := n0_; have BK286 := n1_; have GW286 := n2_; have GE286 := n3_; clear n0_ n1_ n2_ n3_; clear hb hbox hg; have hcz6_0 : w5.cell? ⟨gb286, 0, none⟩ = some (.slice A0_0 l0_0.length c0_0) := (blk_cell BK286.out 0).trans rfl; have hcz6_1 : w5.cell? ⟨gb286, 1, none⟩ = some (.int .i64 a0_1) := (blk_cell BK286.out 1).trans rfl; have hfz6_0 := blk_frozen BK286.out 0; have hfz6_1 := blk_frozen BK286.out 1) | ((with_reducible refine gate_callee (f := 46) rfl ?_); refine goesL_ (some 19) rfl rfl Try.func46 (by kernel_rfl) rfl #[.agg #[.slice A0_0 l0_0.length c0_0, .int .i64 a0_1], .int .i64 1048576] rfl (by (try simp only [List.map_toArray, List.map_cons, List.map_nil]); first | done | rfl | (simp only [List.length_drop, List.length_take]; rfl)) ?_; (with_reducible refine (laws_szParty.calls _ _ l0_0 a0_1 1048576 t287 _ ?side1 ?side2 A3.out).mono ?_); (case side1 => repeat (first | exact (Kd.C_below HR0_0.out HB.out) | (with_reducible refine Kd.C_alloc ?_ _) | (with_reducible refine Kd.C_drewN ?_ _) | (with_reducible refine Kd.C_drew ?_))); (case side2 => exact HC0_0.out); rintro e w7 ⟨rfl, hb⟩; refine ⟨_, rfl, ?_⟩; have n0_ := Aside0.mk (blk_below (g := gb286) (o := .cells #[.slice A0_0 l0_0.length c0_0, .int .i64 a0_1] 62 (0, 0)) (by (with_reducible repeat (first | refine blk_drewN ?_ _ | refine blk_drew ?_ | refine blk_alloc ?_ _)); exact BK286.out) hb); have n1_ := Aside0.mk (below_step (by repeat (first | (with_reducible first | exact HB.out | apply below_alloc | apply pw_below_drewN | apply below_drew1 | refine below_set ?_ GE286.out) | exact HB.out)) hb); clear BK286; clear HB; have BK286 := n0_; have HB := n1_; clear n0_ n1_; (try clear hb); (try clear hb2); (try clear hk); (try clear hi)))
 (try simp only [Act.put, List.setIfInBounds_toArray, List.set_cons_zero, List.set_cons_succ])
 go_cut [] (fun wc => ∃ (kq : Nat), Aside0 (laws_FnExactTimesWalked.j0 kq l1 t287 l0_0 a0_1 = some r) ∧ Aside0 (kq ≤ k) ∧ Aside0 (wc.heap[gb286]? = some (.cells #[(.slice A0_0 l0_0.length c0_0), .int .i64 a0_1] 62 (0, 0))) ∧ Aside0 (Below w.heap.size w wc))
 case first =>
  have H := HC4.out
  clear HC4
  by_cases c8 : t287 < 0
  ·
   rw [if_pos c8] at H
   have c8b0 : decide (t287 < 0) = true := decide_eq_true c8
   clear c8
   (first | rw [c8b0] | (simp only [i64_w, i32_w]; rw [c8b0]) | skip)
   obtain rfl := Option.some.inj H
   go_wp2
   go_ret
   exact ⟨by first | rfl | (simp [errW_none, errW_some] <;> rfl) | (simp [*, errW_none, errW_some] <;> rfl), by repeat (first | (with_reducible first | exact HB.out | apply below_alloc | apply pw_below_drewN | apply below_drew1 | refine below_set ?_ GE286.out) | exact HB.out)⟩
  ·
   rw [if_neg c8] at H
   have c8b0 : decide (t287 < 0) = false := decide_eq_false c8
   clear c8
   (first | rw [c8b0] | (simp only [i64_w, i32_w]; rw [c8b0]) | skip)
   have H' := Aside0.mk H
   clear H
   go_wp2
   go_meet
   case rel => exact ⟨_, H', ⟨by first | omega | exact Nat.le_refl _⟩, ⟨by (with_reducible repeat (first | refine blk_drewN ?_ _ | refine blk_drew ?_ | refine blk_alloc ?_ _)); exact BK286.out⟩, ⟨by repeat (first | (with_reducible first | exact HB.out | apply below_alloc | apply pw_below_drewN | apply below_drew1 | refine below_set ?_ GE286.out) | exact HB.out)⟩⟩
 case rest =>
  clear HC4
  try clear c1
  try clear p2
  try clear c4
  try clear c8
  try clear c8b0
  try clear hcz6_0
  try clear hcz6_1
  try clear hfz6_0
  try clear hfz6_1
  obtain ⟨kq, HA, HJ3, BK286, HB⟩ := hcut
  cases kq with
  | zero => exact absurd HA.out (by simp [laws_FnExactTimesWalked.j0])
  | succ kj3 =>
   have H := HA.out
   clear HA
   simp only [laws_FnExactTimesWalked.j0] at H
   replace H := Option.bind_eq_some_iff.mp H
   obtain ⟨t288, A90, H⟩ := H
   replace H : (if t288 < 0 then (some true) else (laws_FnExactTimesWalked.j1 kj3 l1 l0_0 a0_1)) = some r := H
   have A9 := Aside0.mk A90
   clear A90
   have HC10 := Aside0.mk H
   clear H
   go_upto_if 26 with (first | ((with_reducible refine gate_callee (f := 24) rfl ?_); refine goesL_ (some 24) rfl rfl Try.func24 (by kernel_rfl) rfl #[.slice A1 l1.length c1, .int .i64 t287] rfl (by (try simp only [List.map_toArray, List.map_cons, List.map_nil]); first | done | rfl | (simp only [List.length_drop, List.length_take]; rfl)) ?_; (with_reducible refine (laws_szIntSS.calls kj3 _ _ l1 t287 t288 _ ?side1 ?side2 A9.out).mono ?_); (case side1 => repeat (first | exact (Kd.C_below HR1.out HB.out) | (with_reducible refine Kd.C_alloc ?_ _) | (with_reducible refine Kd.C_drewN ?_ _) | (with_reducible refine Kd.C_drew ?_))); (case side2 => exact HC1.out); rintro e w' ⟨rfl, ⟨nd, rfl⟩⟩; refine ⟨_, rfl, ?_⟩))
   (try simp only [Act.put, List.setIfInBounds_toArray, List.set_cons_zero, List.set_cons_succ])
   go_cut [] (fun wc => ∃ (kq : Nat), Aside0 (laws_FnExactTimesWalked.j1 kq l1 l0_0 a0_1 = some r) ∧ Aside0 (kq ≤ kj3) ∧ Aside0 (wc.heap[gb286]? = some (.cells #[(.slice A0_0 l0_0.length c0_0), .int .i64 a0_1] 62 (0, 0))) ∧ Aside0 (Below w.heap.size w wc))
   case first =>
    have H := HC10.out
    clear HC10
    by_cases c11 : t288 < 0
    ·
     rw [if_pos c11] at H
     have c11b0 : decide (t288 < 0) = true := decide_eq_true c11
     clear c11
     (first | rw [c11b0] | (simp only [i64_w, i32_w]; rw [c11b0]) | skip)
     obtain rfl := Option.some.inj H
     go_wp2
     go_ret
     exact ⟨by first | rfl | (simp [errW_none, errW_some] <;> rfl) | (simp [*, errW_none, errW_some] <;> rfl), by repeat (first | (with_reducible first | exact HB.out | apply below_alloc | apply pw_below_drewN | apply below_drew1 | refine below_set ?_ GE286.out) | exact HB.out)⟩
    ·
     rw [if_neg c11] at H
     have c11b0 : decide (t288 < 0) = false := decide_eq_false c11
     clear c11
     (first | rw [c11b0] | (simp only [i64_w, i32_w]; rw [c11b0]) | skip)
     have H' := Aside0.mk H
     clear H
     go_wp2
     go_meet
     case rel => exact ⟨_, H', ⟨by have := HJ3.out; first | omega | exact Nat.le_refl _⟩, ⟨by (with_reducible repeat (first | refine blk_drewN ?_ _ | refine blk_drew ?_ | refine blk_alloc ?_ _)); exact BK286.out⟩, ⟨by repeat (first | (with_reducible first | exact HB.out | apply below_alloc | apply pw_below_drewN | apply below_drew1 | refine below_set ?_ GE286.out) | exact HB.out)⟩⟩
   case rest =>
    clear HC10
    try clear c1
    try clear c2
    try clear p2
    try clear c4
    try clear c8
    try clear c8b0
    try clear c11
    try clear c11b0
    try clear hcz6_0
    try clear hcz6_1
    try clear hfz6_0
    try clear hfz6_1
    try clear p2
    obtain ⟨kq, HA, HJ9, BK286, HB⟩ := hcut
    cases kq with
    | zero => exact absurd HA.out (by simp [laws_FnExactTimesWalked.j1])
    | succ kj9 =>
     have H := HA.out
     clear HA
     simp only [laws_FnExactTimesWalked.j1] at H
     replace H := Option.bind_eq_some_iff.mp H
     obtain ⟨⟨t289, t292⟩, A120, H⟩ := H
     replace H : ((laws_toIntSS.f kj9 l1).bind fun t293 => ((spec_TimesWalked.f kj9 t289 t292 t293).bind fun bt296 => ((laws_toParty.f kj9 l0_0 a0_1).bind fun bt300 => ((laws_toIntSS.f kj9 l1).bind fun t305 => ((impl_TimesWalked.f kj9 bt300.1 bt300.2 t305).bind fun bt308 => ((laws_eqIntS.f kj9 bt308.1 bt296.1).bind fun t312 => (if t312 = true then (laws_FnExactTimesWalked.j2 kj9 l1 bt296.1 bt296.2 t305 bt308.1 bt308.2 (bt308.2 != bt296.2) l0_0 a0_1 bt300.1 bt300.2) else (laws_FnExactTimesWalked.j2 kj9 l1 bt296.1 bt296.2 t305 bt308.1 bt308.2 true l0_0 a0_1 bt300.1 bt300.2)))))))) = some r := H
     have A12 := Aside0.mk A120
     clear A120
     replace H := Option.bind_eq_some_iff.mp H
     obtain ⟨t293, A130, H⟩ := H
     replace H : ((spec_TimesWalked.f kj9 t289 t292 t293).bind fun bt296 => ((laws_toParty.f kj9 l0_0 a0_1).bind fun bt300 => ((laws_toIntSS.f kj9 l1).bind fun t305 => ((impl_TimesWalked.f kj9 bt300.1 bt300.2 t305).bind fun bt308 => ((laws_eqIntS.f kj9 bt308.1 bt296.1).bind fun t312 => (if t312 = true then (laws_FnExactTimesWalked.j2 kj9 l1 bt296.1 bt296.2 t305 bt308.1 bt308.2 (bt308.2 != bt296.2) l0_0 a0_1 bt300.1 bt300.2) else (laws_FnExactTimesWalked.j2 kj9 l1 bt296.1 bt296.2 t305 bt308.1 bt308.2 true l0_0 a0_1 bt300.1 bt300.2))))))) = some r := H
     have A13 := Aside0.mk A130
     clear A130
     replace H := Option.bind_eq_some_iff.mp H
     obtain ⟨⟨t296, t299⟩, A140, H⟩ := H
     replace H : ((laws_toParty.f kj9 l0_0 a0_1).bind fun bt300 => ((laws_toIntSS.f kj9 l1).bind fun t305 => ((impl_TimesWalked.f kj9 bt300.1 bt300.2 t305).bind fun bt308 => ((laws_eqIntS.f kj9 bt308.1 t296).bind fun t312 => (if t312 = true then (laws_FnExactTimesWalked.j2 kj9 l1 t296 t299 t305 bt308.1 bt308.2 (bt308.2 != t299) l0_0 a0_1 bt300.1 bt300.2) else (laws_FnExactTimesWalked.j2 kj9 l1 t296 t299 t305 bt308.1 bt308.2 true l0_0 a0_1 bt300.1 bt300.2)))))) = some r := H
     have A14 := Aside0.mk A140
     clear A140
     replace H := Option.bind_eq_some_iff.mp H
     obtain ⟨⟨t300, t303⟩, A150, H⟩ := H
     replace H : ((laws_toIntSS.f kj9 l1).bind fun t305 => ((impl_TimesWalked.f kj9 t300 t303 t305).bind fun bt308 => ((laws_eqIntS.f kj9 bt308.1 t296).bind fun t312 => (if t312 = true then (laws_FnExactTimesWalked.j2 kj9 l1 t296 t299 t305 bt308.1 bt308.2 (bt308.2 != t299) l0_0 a0_1 t300 t303) else (laws_FnExactTimesWalked.j2 kj9 l1 t296 t299 t305 bt308.1 bt308.2 true l0_0 a0_1 t300 t303))))) = some r := H
     have A15 := Aside0.mk A150
     clear A150
     replace H := Option.bind_eq_some_iff.mp H
     obtain ⟨t305, A160, H⟩ := H
     replace H : ((impl_TimesWalked.f kj9 t300 t303 t305).bind fun bt308 => ((laws_eqIntS.f kj9 bt308.1 t296).bind fun t312 => (if t312 = true then (laws_FnExactTimesWalked.j2 kj9 l1 t296 t299 t305 bt308.1 bt308.2 (bt308.2 != t299) l0_0 a0_1 t300 t303) else (laws_FnExactTimesWalked.j2 kj9 l1 t296 t299 t305 bt308.1 bt308.2 true l0_0 a0_1 t300 t303)))) = some r := H
     have A16 := Aside0.mk A160
     clear A160
     replace H := Option.bind_eq_some_iff.mp H
     obtain ⟨⟨t308, t311⟩, A170, H⟩ := H
     replace H : ((laws_eqIntS.f kj9 t308 t296).bind fun t312 => (if t312 = true then (laws_FnExactTimesWalked.j2 kj9 l1 t296 t299 t305 t308 t311 (t311 != t299) l0_0 a0_1 t300 t303) else (laws_FnExactTimesWalked.j2 kj9 l1 t296 t299 t305 t308 t311 true l0_0 a0_1 t300 t303))) = some r := H
     have A17 := Aside0.mk A170
     clear A170
     have HC18 := Aside0.mk H
     clear H
     have hcz19_0 : wc.cell? ⟨gb286, 0, none⟩ = some (.slice A0_0 l0_0.length c0_0) := (blk_cell BK286.out 0).trans rfl
     have hcz19_1 : wc.cell? ⟨gb286, 1, none⟩ = some (.int .i64 a0_1) := (blk_cell BK286.out 1).trans rfl
     have hfz19_0 := blk_frozen BK286.out 0
     have hfz19_1 := blk_frozen BK286.out 1
     go_upto_region 12 with (first | ((with_reducible refine gate_callee (f := 49) rfl ?_); refine goesL_ (some 29) rfl rfl Try.func49 (by kernel_rfl) rfl #[.agg #[.slice A0_0 l0_0.length c0_0, .int .i64 a0_1]] rfl (by (try simp only [List.map_toArray, List.map_cons, List.map_nil]); first | done | rfl | (simp only [List.length_drop, List.length_take]; rfl)) ?_; (with_reducible refine (laws_toParty.calls kj9 _ _ l0_0 a0_1 t289 t292 _ ?side1 ?side2 A12.out).mono ?_); (case side1 => repeat (first | exact (Kd.C_below HR0_0.out HB.out) | (with_reducible refine Kd.C_alloc ?_ _) | (with_reducible refine Kd.C_drewN ?_ _) | (with_reducible refine Kd.C_drew ?_))); (case side2 => exact HC0_0.out); rintro e w20 ⟨v290, rfl, ho0, hb⟩; refine ⟨_, rfl, ?_⟩; obtain ⟨D343_, hdl_, hdg_⟩ := dlt_of hb; have D343_lt := Aside0.mk hdl_; have D343_ge := Aside0.mk hdg_; clear hdl_ hdg_; have n0_ := Aside0.mk (Kd.R_lower (Kd.R_dge ho0 D343_ge.out) (below_size (by repeat (first | (with_reducible first | exact HB.out | apply below_alloc | apply pw_below_drewN | apply below_drew1 | refine below_set ?_ GE286.out) | exact HB.out)))); have n1_ := Aside0.mk (blk_below (g := gb286) (o := .cells #[.slice A0_0 l0_0.length c0_0, .int .i64 a0_1] 62 (0, 0)) (by (with_reducible repeat (first | refine blk_drewN ?_ _ | refine blk_drew ?_ | refine blk_alloc ?_ _)); exact BK286.out) hb); have n2_ := Aside0.mk (below_step (by repeat (first | (with_reducible first | exact HB.out | apply below_alloc | apply pw_below_drewN | apply below_drew1 | refine below_set ?_ GE286.out) | exact HB.out)) hb); clear BK286; clear HB; have HO291 := n0_; have BK286 := n1_; have HB := n2_; clear n0_ n1_ n2_; (try clear hb); (try clear hb2); (try clear hk); (try clear hi); (try clear ho0)) | ((with_reducible refine gate_callee (f := 26) rfl ?_); refine goesL_ (some 31) rfl rfl Try.func26 (by kernel_rfl) rfl #[.slice A1 l1.length c1] rfl (by (try simp only [List.map_toArray, List.map_cons, List.map_nil]); first | done | rfl | (simp only [List.length_drop, List.length_take]; rfl)) ?_; (with_reducible refine (laws_toIntSS.calls kj9 _ _ l1 t293 _ ?side1 ?side2 A13.out).mono ?_); (case side1 => repeat (first | exact (Kd.C_below HR1.out HB.out) | (with_reducible refine Kd.C_alloc ?_ _) | (with_reducible refine Kd.C_drewN ?_ _) | (with_reducible refine Kd.C_drew ?_))); (case side2 => exact HC1.out); rintro e w21 ⟨v294, rfl, ho0, hb⟩; refine ⟨_, rfl, ?_⟩; obtain ⟨D344_, hdl_, hdg_⟩ := dlt_of hb; have D344_lt := Aside0.mk hdl_; have D344_ge := Aside0.mk hdg_; clear hdl_ hdg_; have n0_ := Aside0.mk (Kd.R_below (Kd.R_dlt (by (with_reducible repeat (first | apply Kd.R_alloc | apply Kd.R_drewN | apply Kd.R_drew)); exact HO291.out) D344_lt.out) hb); have n1_ := Aside0.mk (Kd.S_lower (Kd.S_new' (Kd.S_dge ho0 D344_ge.out) (Kd.R_lt (by (with_reducible repeat (first | apply Kd.R_alloc | apply Kd.R_drewN | apply Kd.R_drew)); exact HO291.out))) (below_size (by repeat (first | (with_reducible first | exact HB.out | apply below_alloc | apply pw_below_drewN | apply below_drew1 | refine below_set ?_ GE286.out) | exact HB.out)))); have n2_ := Aside0.mk (blk_below (g := gb286) (o := .cells #[.slice A0_0 l0_0.length c0_0, .int .i64 a0_1] 62 (0, 0)) (by (with_reducible repeat (first | refine blk_drewN ?_ _ | refine blk_drew ?_ | refine blk_alloc ?_ _)); exact BK286.out) hb); have n3_ := Aside0.mk (below_step (by repeat (first | (with_reducible first | exact HB.out | apply below_alloc | apply pw_below_drewN | apply below_drew1 | refine below_set ?_ GE286.out) | exact HB.out)) hb); clear HO291; clear BK286; clear HB; have HO291 := n0_; have HO295 := n1_; have BK286 := n2_; have HB := n3_; clear n0_ n1_ n2_ n3_; (try clear hb); (try clear hb2); (try clear hk); (try clear hi); (try clear ho0); obtain ⟨Ao22, co22, eo22⟩ := Kd.R_slice HO291.out; subst eo22; obtain ⟨Ao23, co23, eo23⟩ := Kd.S_slice HO295.out; subst eo23) | ((with_reducible refine gate_callee (f := 63) rfl ?_); refine goesL_ (some 32) rfl rfl Try.func63 (by kernel_rfl) rfl #[.agg #[.slice Ao22 t289.length co22, .int .i64 t292], .slice Ao23 t293.length co23] rfl (by (try simp only [List.map_toArray, List.map_cons, List.map_nil]); first | done | rfl | (simp only [List.length_drop, List.length_take]; rfl)) ?_; (with_reducible refine (spec_TimesWalked.calls kj9 _ _ t289 t292 _ _ t293 t296 t299 _ ?side1 ?side2 ?side3 ?side4 A14.out).mono ?_); (case side1 => repeat (first | exact (Kd.R_reads' HO291.out).2.2 | (with_reducible refine Kd.C_alloc ?_ _) | (with_reducible refine Kd.C_drewN ?_ _) | (with_reducible refine Kd.C_drew ?_))); (case side2 => exact (Kd.R_reads' HO291.out).2.1); (case side3 => repeat (first | exact (Kd.S_reads' HO295.out).2.2 | (with_reducible refine Kd.C_alloc ?_ _) | (with_reducible refine Kd.C_drewN ?_ _) | (with_reducible refine Kd.C_drew ?_))); (case side4 => exact (Kd.S_reads' HO295.out).2.1); rintro e w24 ⟨v297, rfl, ho0, hb⟩; refine ⟨_, rfl, ?_⟩; obtain ⟨D345_, hdl_, hdg_⟩ := dlt_of hb; have D345_lt := Aside0.mk hdl_; have D345_ge := Aside0.mk hdg_; clear hdl_ hdg_; have n0_ := Aside0.mk (Kd.R_elder' (Kd.R_dlt (by (with_reducible repeat (first | apply Kd.R_alloc | apply Kd.R_drewN | apply Kd.R_drew)); exact HO291.out) D345_lt.out) (Kd.R_base ho0) hb); have n1_ := Aside0.mk (Kd.S_elder' (Kd.S_dlt (by (with_reducible repeat (first | apply Kd.S_alloc | apply Kd.S_drewN | apply Kd.S_drew)); exact HO295.out) D345_lt.out) (Kd.R_base ho0) hb); have n2_ := Aside0.mk (Kd.R_lower (Kd.R_new' (Kd.R_dge ho0 D345_ge.out) (Kd.R_lt (by (with_reducible repeat (first | apply Kd.R_alloc | apply Kd.R_drewN | apply Kd.R_drew)); exact HO291.out))) (below_size (by repeat (first | (with_reducible first | exact HB.out | apply below_alloc | apply pw_below_drewN | apply below_drew1 | refine below_set ?_ GE286.out) | exact HB.out)))); have n3_ := Aside0.mk (blk_below (g := gb286) (o := .cells #[.slice A0_0 l0_0.length c0_0, .int .i64 a0_1] 62 (0, 0)) (by (with_reducible repeat (first | refine blk_drewN ?_ _ | refine blk_drew ?_ | refine blk_alloc ?_ _)); exact BK286.out) hb); have n4_ := Aside0.mk (below_step (by repeat (first | (with_reducible first | exact HB.out | apply below_alloc | apply pw_below_drewN | apply below_drew1 | refine below_set ?_ GE286.out) | exact HB.out)) hb); clear HO291; clear HO295; clear BK286; clear HB; have HO291 := n0_; have HO295 := n1_; have HO298 := n2_; have BK286 := n3_; have HB := n4_; clear n0_ n1_ n2_ n3_ n4_; (try clear hb); (try clear hb2); (try clear hk); (try clear hi); (try clear ho0); have hcz25_0 : w24.cell? ⟨gb286, 0, none⟩ = some (.slice A0_0 l0_0.length c0_0) := (blk_cell BK286.out 0).trans rfl; have hcz25_1 : w24.cell? ⟨gb286, 1, none⟩ = some (.int .i64 a0_1) := (blk_cell BK286.out 1).trans rfl; have hfz25_0 := blk_frozen BK286.out 0; have hfz25_1 := blk_frozen BK286.out 1) | ((with_reducible refine gate_callee (f := 49) rfl ?_); refine goesL_ (some 36) rfl rfl Try.func49 (by kernel_rfl) rfl #[.agg #[.slice A0_0 l0_0.length c0_0, .int .i64 a0_1]] rfl (by (try simp only [List.map_toArray, List.map_cons, List.map_nil]); first | done | rfl | (simp only [List.length_drop, List.length_take]; rfl)) ?_; (with_reducible refine (laws_toParty.calls kj9 _ _ l0_0 a0_1 t300 t303 _ ?side1 ?side2 A15.out).mono ?_); (case side1 => repeat (first | exact (Kd.C_below HR0_0.out HB.out) | (with_reducible refine Kd.C_alloc ?_ _) | (with_reducible refine Kd.C_drewN ?_ _) | (with_reducible refine Kd.C_drew ?_))); (case side2 => exact HC0_0.out); rintro e w26 ⟨v301, rfl, ho0, hb⟩; refine ⟨_, rfl, ?_⟩; obtain ⟨D346_, hdl_, hdg_⟩ := dlt_of hb; have D346_lt := Aside0.mk hdl_; have D346_ge := Aside0.mk hdg_; clear hdl_ hdg_; have n0_ := Aside0.mk (Kd.R_elder' (Kd.R_dlt (by (with_reducible repeat (first | apply Kd.R_alloc | apply Kd.R_drewN | apply Kd.R_drew)); exact HO291.out) D346_lt.out) (Kd.R_base ho0) hb); have n1_ := Aside0.mk (Kd.S_elder' (Kd.S_dlt (by (with_reducible repeat (first | apply Kd.S_alloc | apply Kd.S_drewN | apply Kd.S_drew)); exact HO295.out) D346_lt.out) (Kd.R_base ho0) hb); have n2_ := Aside0.mk (Kd.R_elder' (Kd.R_dlt (by (with_reducible repeat (first | apply Kd.R_alloc | apply Kd.R_drewN | apply Kd.R_drew)); exact HO298.out) D346_lt.out) (Kd.R_base ho0) hb); have n3_ := Aside0.mk (Kd.R_lower (Kd.R_new' (Kd.R_new' (Kd.R_dge ho0 D346_ge.out) (Kd.R_lt (by (with_reducible repeat (first | apply Kd.R_alloc | apply Kd.R_drewN | apply Kd.R_drew)); exact HO291.out))) (Kd.R_lt (by (with_reducible repeat (first | apply Kd.R_alloc | apply Kd.R_drewN | apply Kd.R_drew)); exact HO298.out))) (below_size (by repeat (first | (with_reducible first | exact HB.out | apply below_alloc | apply pw_below_drewN | apply below_drew1 | refine below_set ?_ GE286.out) | exact HB.out)))); have n4_ := Aside0.mk (blk_below (g := gb286) (o := .cells #[.slice A0_0 l0_0.length c0_0, .int .i64 a0_1] 62 (0, 0)) (by (with_reducible repeat (first | refine blk_drewN ?_ _ | refine blk_drew ?_ | refine blk_alloc ?_ _)); exact BK286.out) hb); have n5_ := Aside0.mk (below_step (by repeat (first | (with_reducible first | exact HB.out | apply below_alloc | apply pw_below_drewN | apply below_drew1 | refine below_set ?_ GE286.out) | exact HB.out)) hb); clear HO291; clear HO295; clear HO298; clear BK286; clear HB; have HO291 := n0_; have HO295 := n1_; have HO298 := n2_; have HO302 := n3_; have BK286 := n4_; have HB := n5_; clear n0_ n1_ n2_ n3_ n4_ n5_; (try clear hb); (try clear hb2); (try clear hk); (try clear hi); (try clear ho0)) | ((with_reducible refine gate_dst (N := 8) rfl ?_); refine box_event ?hg (N := 8) ?hd (cs := #[.slice none 0 0, .int .i64 0]) (t := 69) ?hr ?_; (case hd => rfl); (case hg => rfl); (case hr => first | (go_simp; done) | (go_simp; rfl)); intro gb304 hg w27 hbox hb; have n0_ := Aside0.mk (Kd.R_below (by (with_reducible repeat (first | apply Kd.R_alloc | apply Kd.R_drewN | apply Kd.R_drew)); exact HO291.out) hb); have n1_ := Aside0.mk (Kd.S_below (by (with_reducible repeat (first | apply Kd.S_alloc | apply Kd.S_drewN | apply Kd.S_drew)); exact HO295.out) hb); have n2_ := Aside0.mk (Kd.R_below (by (with_reducible repeat (first | apply Kd.R_alloc | apply Kd.R_drewN | apply Kd.R_drew)); exact HO298.out) hb); have n3_ := Aside0.mk (Kd.R_below (by (with_reducible repeat (first | apply Kd.R_alloc | apply Kd.R_drewN | apply Kd.R_drew)); exact HO302.out) hb); have n4_ := Aside0.mk (blk_below (g := gb286) (o := .cells #[.slice A0_0 l0_0.length c0_0, .int .i64 a0_1] 62 (0, 0)) (by (with_reducible repeat (first | refine blk_drewN ?_ _ | refine blk_drew ?_ | refine blk_alloc ?_ _)); exact BK286.out) hb); have n5_ := Aside0.mk (below_step (by repeat (first | (with_reducible first | exact HB.out | apply below_alloc | apply pw_below_drewN | apply below_drew1 | refine below_set ?_ GE286.out) | exact HB.out)) hb); have n6_ := Aside0.mk (hbox); have n7_ := Aside0.mk ((by rw [hg]; exact (below_size (by repeat (first | (with_reducible first | exact HB.out | apply below_alloc | apply pw_below_drewN | apply below_drew1 | refine below_set ?_ GE286.out) | exact HB.out))) : w.heap.size ≤ gb304)); have n8_ := Aside0.mk ((by rw [hg]; exact (below_size (by repeat (first | (with_reducible first | exact HB.out | apply below_alloc | apply pw_below_drewN | apply below_drew1 | refine below_set ?_ GE286.out) | exact HB.out))) : w.heap.size ≤ gb304)); have n9_ := Aside0.mk ((by rw [hg]; exact Nat.ne_of_lt (blk_lt (g := gb286) (o := .cells #[.slice A0_0 l0_0.length c0_0, .int .i64 a0_1] 62 (0, 0)) (by (with_reducible repeat (first | refine blk_drewN ?_ _ | refine blk_drew ?_ | refine blk_alloc ?_ _)); exact BK286.out)) : gb286 ≠ gb304)); have n10_ := Aside0.mk ((by rw [hg]; exact Nat.ne_of_gt (blk_lt (g := gb286) (o := .cells #[.slice A0_0 l0_0.length c0_0, .int .i64 a0_1] 62 (0, 0)) (by (with_reducible repeat (first | refine blk_drewN ?_ _ | refine blk_drew ?_ | refine blk_alloc ?_ _)); exact BK286.out)) : gb304 ≠ gb286)); clear HO291; clear HO295; clear HO298; clear HO302; clear BK286; clear HB; have HO291 := n0_; have HO295 := n1_; have HO298 := n2_; have HO302 := n3_; have BK286 := n4_; have HB := n5_; have BK304 := n6_; have GW304 := n7_; have GE304 := n8_; have NB286_304 := n9_; have NB304_286 := n10_; clear n0_ n1_ n2_ n3_ n4_ n5_ n6_ n7_ n8_ n9_ n10_; clear hb hbox hg; obtain ⟨Ao28, co28, eo28⟩ := Kd.R_slice HO302.out; subst eo28; have hnb29 := NB304_286.out; have hnc29 := NB286_304.out; have hcz30_0 : w27.cell? ⟨gb304, 0, none⟩ = some (.slice none 0 0) := (blk_cell BK304.out 0).trans rfl; have hcz30_1 : w27.cell? ⟨gb304, 1, none⟩ = some (.int .i64 0) := (blk_cell BK304.out 1).trans rfl; have hfz30_0 := blk_frozen BK304.out 0; have hfz30_1 := blk_frozen BK304.out 1) | ((with_reducible refine gate_callee (f := 26) rfl ?_); refine goesL_ (some 38) rfl rfl Try.func26 (by kernel_rfl) rfl #[.slice A1 l1.length c1] rfl (by (try simp only [List.map_toArray, List.map_cons, List.map_nil]); first | done | rfl | (simp only [List.length_drop, List.length_take]; rfl)) ?_; (with_reducible refine (laws_toIntSS.calls kj9 _ _ l1 t305 _ ?side1 ?side2 A16.out).mono ?_); (case side1 => exact Kd.C_below HR1.out (by repeat (first | (with_reducible first | exact HB.out | apply below_alloc | apply pw_below_drewN | apply below_drew1 | refine below_set ?_ GE286.out | refine below_set ?_ GE304.out) | exact HB.out))); (case side2 => exact HC1.out); rintro e w31 ⟨v306, rfl, ho0, hb⟩; refine ⟨_, rfl, ?_⟩; obtain ⟨D347_, hdl_, hdg_⟩ := dlt_of hb; have D347_lt := Aside0.mk hdl_; have D347_ge := Aside0.mk hdg_; clear hdl_ hdg_; have n0_ := Aside0.mk (Kd.R_below (Kd.R_dlt (by (with_reducible repeat (first | apply Kd.R_alloc | apply Kd.R_drewN | apply Kd.R_drew)); exact (Kd.R_mono (Kd.R_far (p := ⟨gb304, 1, none⟩) (Kd.R_far (p := ⟨gb304, 0, none⟩) (Kd.R_types HO291.out BK304.out (by decide)) (fun _ hk => hk.2) (.slice Ao28 t300.length co28)) (fun _ hk => hk.2) (.int .i64 t303)) (fun _ h_ => h_.1))) D347_lt.out) hb); have n1_ := Aside0.mk (Kd.S_elder' (Kd.S_dlt (by (with_reducible repeat (first | apply Kd.S_alloc | apply Kd.S_drewN | apply Kd.S_drew)); exact (Kd.S_mono (Kd.S_far (p := ⟨gb304, 1, none⟩) (Kd.S_far (p := ⟨gb304, 0, none⟩) (Kd.S_types HO295.out BK304.out (by decide)) (fun _ hk => hk.2) (.slice Ao28 t300.length co28)) (fun _ hk => hk.2) (.int .i64 t303)) (fun _ h_ => h_.1))) D347_lt.out) (Kd.S_base ho0) hb); have n2_ := Aside0.mk (Kd.R_below (Kd.R_dlt (by (with_reducible repeat (first | apply Kd.R_alloc | apply Kd.R_drewN | apply Kd.R_drew)); exact (Kd.R_mono (Kd.R_far (p := ⟨gb304, 1, none⟩) (Kd.R_far (p := ⟨gb304, 0, none⟩) (Kd.R_types HO298.out BK304.out (by decide)) (fun _ hk => hk.2) (.slice Ao28 t300.length co28)) (fun _ hk => hk.2) (.int .i64 t303)) (fun _ h_ => h_.1))) D347_lt.out) hb); have n3_ := Aside0.mk (Kd.R_below (Kd.R_dlt (by (with_reducible repeat (first | apply Kd.R_alloc | apply Kd.R_drewN | apply Kd.R_drew)); exact (Kd.R_mono (Kd.R_far (p := ⟨gb304, 1, none⟩) (Kd.R_far (p := ⟨gb304, 0, none⟩) (Kd.R_types HO302.out BK304.out (by decide)) (fun _ hk => hk.2) (.slice Ao28 t300.length co28)) (fun _ hk => hk.2) (.int .i64 t303)) (fun _ h_ => h_.1))) D347_lt.out) hb); have n4_ := Aside0.mk (Kd.S_lower (Kd.S_new' (Kd.S_new' (Kd.S_new' (Kd.S_new' (Kd.S_dge ho0 D347_ge.out) (Kd.R_lt (by (with_reducible repeat (first | apply Kd.R_alloc | apply Kd.R_drewN | apply Kd.R_drew)); exact (Kd.R_mono (Kd.R_far (p := ⟨gb304, 1, none⟩) (Kd.R_far (p := ⟨gb304, 0, none⟩) (Kd.R_types HO291.out BK304.out (by decide)) (fun _ hk => hk.2) (.slice Ao28 t300.length co28)) (fun _ hk => hk.2) (.int .i64 t303)) (fun _ h_ => h_.1))))) (Kd.S_lt (by (with_reducible repeat (first | apply Kd.S_alloc | apply Kd.S_drewN | apply Kd.S_drew)); exact (Kd.S_mono (Kd.S_far (p := ⟨gb304, 1, none⟩) (Kd.S_far (p := ⟨gb304, 0, none⟩) (Kd.S_types HO295.out BK304.out (by decide)) (fun _ hk => hk.2) (.slice Ao28 t300.length co28)) (fun _ hk => hk.2) (.int .i64 t303)) (fun _ h_ => h_.1))))) (Kd.R_lt (by (with_reducible repeat (first | apply Kd.R_alloc | apply Kd.R_drewN | apply Kd.R_drew)); exact (Kd.R_mono (Kd.R_far (p := ⟨gb304, 1, none⟩) (Kd.R_far (p := ⟨gb304, 0, none⟩) (Kd.R_types HO298.out BK304.out (by decide)) (fun _ hk => hk.2) (.slice Ao28 t300.length co28)) (fun _ hk => hk.2) (.int .i64 t303)) (fun _ h_ => h_.1))))) (Kd.R_lt (by (with_reducible repeat (first | apply Kd.R_alloc | apply Kd.R_drewN | apply Kd.R_drew)); exact (Kd.R_mono (Kd.R_far (p := ⟨gb304, 1, none⟩) (Kd.R_far (p := ⟨gb304, 0, none⟩) (Kd.R_types HO302.out BK304.out (by decide)) (fun _ hk => hk.2) (.slice Ao28 t300.length co28)) (fun _ hk => hk.2) (.int .i64 t303)) (fun _ h_ => h_.1))))) (below_size (by repeat (first | (with_reducible first | exact HB.out | apply below_alloc | apply pw_below_drewN | apply below_drew1 | refine below_set ?_ GE286.out | refine below_set ?_ GE304.out) | exact HB.out)))); have n5_ := Aside0.mk (blk_below (g := gb286) (o := .cells #[.slice A0_0 l0_0.length c0_0, .int .i64 a0_1] 62 (0, 0)) (by (with_reducible repeat (first | refine blk_drewN ?_ _ | refine blk_drew ?_ | refine blk_alloc ?_ _)); refine blk_far ?_ NB286_304.out _; (with_reducible repeat (first | refine blk_drewN ?_ _ | refine blk_drew ?_ | refine blk_alloc ?_ _)); refine blk_far ?_ NB286_304.out _; (with_reducible repeat (first | refine blk_drewN ?_ _ | refine blk_drew ?_ | refine blk_alloc ?_ _)); exact BK286.out) hb); have n6_ := Aside0.mk (blk_below (g := gb304) (o := .cells #[.slice Ao28 t300.length co28, .int .i64 t303] 69 (0, 0)) (by (with_reducible repeat (first | refine blk_drewN ?_ _ | refine blk_drew ?_ | refine blk_alloc ?_ _)); refine blk_put (cs := #[.slice Ao28 t300.length co28, .int .i64 0]) ?_ 1 _ rfl; (with_reducible repeat (first | refine blk_drewN ?_ _ | refine blk_drew ?_ | refine blk_alloc ?_ _)); refine blk_put (cs := #[.slice none 0 0, .int .i64 0]) ?_ 0 _ rfl; (with_reducible repeat (first | refine blk_drewN ?_ _ | refine blk_drew ?_ | refine blk_alloc ?_ _)); exact BK304.out) hb); have n7_ := Aside0.mk (below_step (by repeat (first | (with_reducible first | exact HB.out | apply below_alloc | apply pw_below_drewN | apply below_drew1 | refine below_set ?_ GE286.out | refine below_set ?_ GE304.out) | exact HB.out)) hb); clear HO291; clear HO295; clear HO298; clear HO302; clear BK286; clear BK304; clear HB; have HO291 := n0_; have HO295 := n1_; have HO298 := n2_; have HO302 := n3_; have HO307 := n4_; have BK286 := n5_; have BK304 := n6_; have HB := n7_; clear n0_ n1_ n2_ n3_ n4_ n5_ n6_ n7_; (try clear hb); (try clear hb2); (try clear hk); (try clear hi); (try clear ho0); have hcz32_0 : w31.cell? ⟨gb304, 0, none⟩ = some (.slice Ao28 t300.length co28) := (blk_cell BK304.out 0).trans rfl; have hcz32_1 : w31.cell? ⟨gb304, 1, none⟩ = some (.int .i64 t303) := (blk_cell BK304.out 1).trans rfl; have hfz32_0 := blk_frozen BK304.out 0; have hfz32_1 := blk_frozen BK304.out 1; obtain ⟨Ao33, co33, eo33⟩ := Kd.S_slice HO307.out; subst eo33) | ((with_reducible refine gate_callee (f := 64) rfl ?_); refine goesL_ (some 42) rfl rfl Try.func64 (by kernel_rfl) rfl #[.agg #[.slice Ao28 t300.length co28, .int .i64 t303], .slice Ao33 t305.length co33] rfl (by (try simp only [List.map_toArray, List.map_cons, List.map_nil]); first | done | rfl | (simp only [List.length_drop, List.length_take]; rfl)) ?_; (with_reducible refine (impl_TimesWalked.calls kj9 _ _ t300 t303 _ _ t305 t308 t311 _ ?side1 ?side2 ?side3 ?side4 A17.out).mono ?_); (case side1 => repeat (first | exact (Kd.R_reads' HO302.out).2.2 | (with_reducible refine Kd.C_alloc ?_ _) | (with_reducible refine Kd.C_drewN ?_ _) | (with_reducible refine Kd.C_drew ?_))); (case side2 => exact (Kd.R_reads' HO302.out).2.1); (case side3 => repeat (first | exact (Kd.S_reads' HO307.out).2.2 | (with_reducible refine Kd.C_alloc ?_ _) | (with_reducible refine Kd.C_drewN ?_ _) | (with_reducible refine Kd.C_drew ?_))); (case side4 => exact (Kd.S_reads' HO307.out).2.1); rintro e w34 ⟨v309, rfl, ho0, hb⟩; refine ⟨_, rfl, ?_⟩; obtain ⟨D348_, hdl_, hdg_⟩ := dlt_of hb; have D348_lt := Aside0.mk hdl_; have D348_ge := Aside0.mk hdg_; clear hdl_ hdg_; have n0_ := Aside0.mk (Kd.R_elder' (Kd.R_dlt (by (with_reducible repeat (first | apply Kd.R_alloc | apply Kd.R_drewN | apply Kd.R_drew)); exact HO291.out) D348_lt.out) (Kd.R_base ho0) hb); have n1_ := Aside0.mk (Kd.S_elder' (Kd.S_dlt (by (with_reducible repeat (first | apply Kd.S_alloc | apply Kd.S_drewN | apply Kd.S_drew)); exact HO295.out) D348_lt.out) (Kd.R_base ho0) hb); have n2_ := Aside0.mk (Kd.R_elder' (Kd.R_dlt (by (with_reducible repeat (first | apply Kd.R_alloc | apply Kd.R_drewN | apply Kd.R_drew)); exact HO298.out) D348_lt.out) (Kd.R_base ho0) hb); have n3_ := Aside0.mk (Kd.R_elder' (Kd.R_dlt (by (with_reducible repeat (first | apply Kd.R_alloc | apply Kd.R_drewN | apply Kd.R_drew)); exact HO302.out) D348_lt.out) (Kd.R_base ho0) hb); have n4_ := Aside0.mk (Kd.S_elder' (Kd.S_dlt (by (with_reducible repeat (first | apply Kd.S_alloc | apply Kd.S_drewN | apply Kd.S_drew)); exact HO307.out) D348_lt.out) (Kd.R_base ho0) hb); have n5_ := Aside0.mk (Kd.R_lower (Kd.R_new' (Kd.R_new' (Kd.R_new' (Kd.R_dge ho0 D348_ge.out) (Kd.R_lt (by (with_reducible repeat (first | apply Kd.R_alloc | apply Kd.R_drewN | apply Kd.R_drew)); exact HO291.out))) (Kd.R_lt (by (with_reducible repeat (first | apply Kd.R_alloc | apply Kd.R_drewN | apply Kd.R_drew)); exact HO298.out))) (Kd.R_lt (by (with_reducible repeat (first | apply Kd.R_alloc | apply Kd.R_drewN | apply Kd.R_drew)); exact HO302.out))) (below_size (by repeat (first | (with_reducible first | exact HB.out | apply below_alloc | apply pw_below_drewN | apply below_drew1 | refine below_set ?_ GE286.out | refine below_set ?_ GE304.out) | exact HB.out)))); have n6_ := Aside0.mk (blk_below (g := gb286) (o := .cells #[.slice A0_0 l0_0.length c0_0, .int .i64 a0_1] 62 (0, 0)) (by (with_reducible repeat (first | refine blk_drewN ?_ _ | refine blk_drew ?_ | refine blk_alloc ?_ _)); exact BK286.out) hb); have n7_ := Aside0.mk (blk_below (g := gb304) (o := .cells #[.slice Ao28 t300.length co28, .int .i64 t303] 69 (0, 0)) (by (with_reducible repeat (first | refine blk_drewN ?_ _ | refine blk_drew ?_ | refine blk_alloc ?_ _)); exact BK304.out) hb); have n8_ := Aside0.mk (below_step (by repeat (first | (with_reducible first | exact HB.out | apply below_alloc | apply pw_below_drewN | apply below_drew1 | refine below_set ?_ GE286.out | refine below_set ?_ GE304.out) | exact HB.out)) hb); clear HO291; clear HO295; clear HO298; clear HO302; clear HO307; clear BK286; clear BK304; clear HB; have HO291 := n0_; have HO295 := n1_; have HO298 := n2_; have HO302 := n3_; have HO307 := n4_; have HO310 := n5_; have BK286 := n6_; have BK304 := n7_; have HB := n8_; clear n0_ n1_ n2_ n3_ n4_ n5_ n6_ n7_ n8_; (try clear hb); (try clear hb2); (try clear hk); (try clear hi); (try clear ho0)))
     (try simp only [Act.put, List.setIfInBounds_toArray, List.set_cons_zero, List.set_cons_succ])
     go_cut [53] (fun v53 wc => ∃ (kq : Nat) (x53_17 : Bool), v53 = .bool x53_17 ∧ Aside0 (laws_FnExactTimesWalked.j2 kq l1 t296 t299 t305 t308 t311 x53_17 l0_0 a0_1 t300 t303 = some r) ∧ Aside0 (kq ≤ kj9) ∧ Aside0 (Kd.R (Kd.int .i64) 3 wc w.heap.size (fun k_ => some k_ ≠ (v309 : Value).ownBlock ∧ some k_ ≠ ((.slice Ao28 t300.length co28) : Value).ownBlock ∧ ¬ D345_ k_ ∧ D346_ k_ ∧ D347_ k_ ∧ D348_ k_) v297 t296) ∧ Aside0 (Kd.S (Kd.slice 3 (Kd.int .i64)) 22 wc w.heap.size (fun k_ => some k_ ≠ (v297 : Value).ownBlock ∧ some k_ ≠ (v309 : Value).ownBlock ∧ some k_ ≠ ((.slice Ao28 t300.length co28) : Value).ownBlock ∧ ¬ D347_ k_ ∧ D348_ k_) (.slice Ao33 t305.length co33) t305) ∧ Aside0 (Kd.R (Kd.int .i64) 3 wc w.heap.size (fun k_ => some k_ ≠ (v297 : Value).ownBlock ∧ some k_ ≠ ((.slice Ao28 t300.length co28) : Value).ownBlock ∧ ¬ D348_ k_) v309 t308) ∧ Aside0 (Kd.R (Kd.int .i64) 3 wc w.heap.size (fun k_ => some k_ ≠ (v297 : Value).ownBlock ∧ some k_ ≠ (v309 : Value).ownBlock ∧ ¬ D346_ k_ ∧ D347_ k_ ∧ D348_ k_) (.slice Ao28 t300.length co28) t300) ∧ Aside0 (wc.heap[gb286]? = some (.cells #[(.slice A0_0 l0_0.length c0_0), .int .i64 a0_1] 62 (0, 0))) ∧ Aside0 (wc.heap[gb304]? = some (.cells #[(.slice Ao28 t300.length co28), .int .i64 t303] 69 (0, 0))) ∧ Aside0 (Below w.heap.size w wc))
     case first =>
      have H := HC18.out
      clear HC18
      replace H := Option.bind_eq_some_iff.mp H
      obtain ⟨t312, A350, H⟩ := H
      replace H : (if t312 = true then (laws_FnExactTimesWalked.j2 kj9 l1 t296 t299 t305 t308 t311 (t311 != t299) l0_0 a0_1 t300 t303) else (laws_FnExactTimesWalked.j2 kj9 l1 t296 t299 t305 t308 t311 true l0_0 a0_1 t300 t303)) = some r := H
      have A35 := Aside0.mk A350
      clear A350
      by_cases c36 : t312 = true
      ·
       subst c36
       have H1 : (laws_FnExactTimesWalked.j2 kj9 l1 t296 t299 t305 t308 t311 (t311 != t299) l0_0 a0_1 t300 t303) = some r := by rw [if_pos rfl] at H; exact H
       clear H
       have H := H1
       clear H1
       have H' := Aside0.mk H
       clear H
       obtain ⟨Ao37, co37, eo37⟩ := Kd.R_slice HO310.out
       subst eo37
       obtain ⟨Ao38, co38, eo38⟩ := Kd.R_slice HO298.out
       subst eo38
       go_wp2_with (first | ((with_reducible refine gate_callee (f := 65) rfl ?_); refine goesL_ (some 47) rfl rfl Try.func65 (by kernel_rfl) rfl #[.slice Ao37 t308.length co37, .slice Ao38 t296.length co38] rfl (by (try simp only [List.map_toArray, List.map_cons, List.map_nil]); first | done | rfl | (simp only [List.length_drop, List.length_take]; rfl)) ?_; (with_reducible refine (laws_eqIntS.calls kj9 _ _ t308 _ _ t296 true _ ?side1 ?side2 ?side3 ?side4 A35.out).mono ?_); (case side1 => repeat (first | exact (Kd.R_reads' HO310.out).2.2 | (with_reducible refine Kd.C_alloc ?_ _) | (with_reducible refine Kd.C_drewN ?_ _) | (with_reducible refine Kd.C_drew ?_))); (case side2 => exact (Kd.R_reads' HO310.out).2.1); (case side3 => repeat (first | exact (Kd.R_reads' HO298.out).2.2 | (with_reducible refine Kd.C_alloc ?_ _) | (with_reducible refine Kd.C_drewN ?_ _) | (with_reducible refine Kd.C_drew ?_))); (case side4 => exact (Kd.R_reads' HO298.out).2.1); rintro e w' ⟨rfl, ⟨nd, rfl⟩⟩; refine ⟨_, rfl, ?_⟩))
       go_meet
       case rel => exact ⟨_, ((t311 != t299)), (by first | rfl | (simp; done) | (simp [*]; done)), H', ⟨by have := HJ3.out; have := HJ9.out; first | omega | exact Nat.le_refl _⟩, ⟨by (with_reducible repeat (first | apply Kd.R_alloc | apply Kd.R_drewN | apply Kd.R_drew)); exact Kd.R_mono HO298.out (fun _ hk => ⟨hk.2, ⟨hk.1.1.1.2, ⟨hk.1.1.1.1.1.1.2, ⟨hk.1.1.1.1.2, ⟨hk.1.1.2, hk.1.2⟩⟩⟩⟩⟩)⟩, ⟨by (with_reducible repeat (first | apply Kd.S_alloc | apply Kd.S_drewN | apply Kd.S_drew)); exact Kd.S_mono HO307.out (fun _ hk => ⟨hk.1.1.1.2, ⟨hk.2, ⟨hk.1.1.2, ⟨hk.1.1.1.1.1.1.2, hk.1.2⟩⟩⟩⟩)⟩, ⟨by (with_reducible repeat (first | apply Kd.R_alloc | apply Kd.R_drewN | apply Kd.R_drew)); exact Kd.R_mono HO310.out (fun _ hk => ⟨hk.1.2, ⟨hk.2, hk.1.1.1.2⟩⟩)⟩, ⟨by (with_reducible repeat (first | apply Kd.R_alloc | apply Kd.R_drewN | apply Kd.R_drew)); exact Kd.R_mono HO302.out (fun _ hk => ⟨hk.1.1.1.2, ⟨hk.2, ⟨hk.1.1.1.1.1.2, ⟨hk.1.1.2, hk.1.2⟩⟩⟩⟩)⟩, ⟨by (with_reducible repeat (first | refine blk_drewN ?_ _ | refine blk_drew ?_ | refine blk_alloc ?_ _)); exact BK286.out⟩, ⟨by (with_reducible repeat (first | refine blk_drewN ?_ _ | refine blk_drew ?_ | refine blk_alloc ?_ _)); exact BK304.out⟩, ⟨by repeat (first | (with_reducible first | exact HB.out | apply below_alloc | apply pw_below_drewN | apply below_drew1 | refine below_set ?_ GE286.out | refine below_set ?_ GE304.out) | exact HB.out)⟩⟩
      ·
       replace c36 := Bool.eq_false_iff.mpr c36
       subst c36
       have H1 : (laws_FnExactTimesWalked.j2 kj9 l1 t296 t299 t305 t308 t311 true l0_0 a0_1 t300 t303) = some r := by rw [if_neg (show ¬ (false = true) by decide)] at H; exact H
       clear H
       have H := H1
       clear H1
       have H' := Aside0.mk H
       clear H
       obtain ⟨Ao39, co39, eo39⟩ := Kd.R_slice HO310.out
       subst eo39
       obtain ⟨Ao40, co40, eo40⟩ := Kd.R_slice HO298.out
       subst eo40
       go_wp2_with (first | ((with_reducible refine gate_callee (f := 65) rfl ?_); refine goesL_ (some 47) rfl rfl Try.func65 (by kernel_rfl) rfl #[.slice Ao39 t308.length co39, .slice Ao40 t296.length co40] rfl (by (try simp only [List.map_toArray, List.map_cons, List.map_nil]); first | done | rfl | (simp only [List.length_drop, List.length_take]; rfl)) ?_; (with_reducible refine (laws_eqIntS.calls kj9 _ _ t308 _ _ t296 false _ ?side1 ?side2 ?side3 ?side4 A35.out).mono ?_); (case side1 => repeat (first | exact (Kd.R_reads' HO310.out).2.2 | (with_reducible refine Kd.C_alloc ?_ _) | (with_reducible refine Kd.C_drewN ?_ _) | (with_reducible refine Kd.C_drew ?_))); (case side2 => exact (Kd.R_reads' HO310.out).2.1); (case side3 => repeat (first | exact (Kd.R_reads' HO298.out).2.2 | (with_reducible refine Kd.C_alloc ?_ _) | (with_reducible refine Kd.C_drewN ?_ _) | (with_reducible refine Kd.C_drew ?_))); (case side4 => exact (Kd.R_reads' HO298.out).2.1); rintro e w' ⟨rfl, ⟨nd, rfl⟩⟩; refine ⟨_, rfl, ?_⟩))
       go_meet
       case rel => exact ⟨_, (true), (by first | rfl | (simp; done) | (simp [*]; done)), H', ⟨by have := HJ3.out; have := HJ9.out; first | omega | exact Nat.le_refl _⟩, ⟨by (with_reducible repeat (first | apply Kd.R_alloc | apply Kd.R_drewN | apply Kd.R_drew)); exact Kd.R_mono HO298.out (fun _ hk => ⟨hk.2, ⟨hk.1.1.1.2, ⟨hk.1.1.1.1.1.1.2, ⟨hk.1.1.1.1.2, ⟨hk.1.1.2, hk.1.2⟩⟩⟩⟩⟩)⟩, ⟨by (with_reducible repeat (first | apply Kd.S_alloc | apply Kd.S_drewN | apply Kd.S_drew)); exact Kd.S_mono HO307.out (fun _ hk => ⟨hk.1.1.1.2, ⟨hk.2, ⟨hk.1.1.2, ⟨hk.1.1.1.1.1.1.2, hk.1.2⟩⟩⟩⟩)⟩, ⟨by (with_reducible repeat (first | apply Kd.R_alloc | apply Kd.R_drewN | apply Kd.R_drew)); exact Kd.R_mono HO310.out (fun _ hk => ⟨hk.1.2, ⟨hk.2, hk.1.1.1.2⟩⟩)⟩, ⟨by (with_reducible repeat (first | apply Kd.R_alloc | apply Kd.R_drewN | apply Kd.R_drew)); exact Kd.R_mono HO302.out (fun _ hk => ⟨hk.1.1.1.2, ⟨hk.2, ⟨hk.1.1.1.1.1.2, ⟨hk.1.1.2, hk.1.2⟩⟩⟩⟩)⟩, ⟨by (with_reducible repeat (first | refine blk_drewN ?_ _ | refine blk_drew ?_ | refine blk_alloc ?_ _)); exact BK286.out⟩, ⟨by (with_reducible repeat (first | refine blk_drewN ?_ _ | refine blk_drew ?_ | refine blk_alloc ?_ _)); exact BK304.out⟩, ⟨by repeat (first | (with_reducible first | exact HB.out | apply below_alloc | apply pw_below_drewN | apply below_drew1 | refine below_set ?_ GE286.out | refine below_set ?_ GE304.out) | exact HB.out)⟩⟩
     case rest =>
      clear HC18
      try clear c1
      try clear c2
      try clear p2
      try clear c3
      try clear c4
      try clear c6
      try clear c8
      try clear c8b0
      try clear c11
      try clear c11b0
      try clear c14
      try clear c24
      try clear c26
      try clear c29
      try clear c36
      try clear hcz19_0
      try clear hcz19_1
      try clear hcz25_0
      try clear hcz25_1
      try clear hcz30_0
      try clear hcz30_1
      try clear hcz32_0
      try clear hcz32_1
      try clear hcz6_0
      try clear hcz6_1
      try clear hfz19_0
      try clear hfz19_1
      try clear hfz25_0
      try clear hfz25_1
      try clear hfz30_0
      try clear hfz30_1
      try clear hfz32_0
      try clear hfz32_1
      try clear hfz6_0
      try clear hfz6_1
      try clear p2
      obtain ⟨kq, x53_17, rfl, HA, HJ17, HO_6, HO_9, HO_10, HO_305000, BK286, BK304, HB⟩ := hcut
      cases kq with
      | zero => exact absurd HA.out (by simp [laws_FnExactTimesWalked.j2])
      | succ kj17 =>
       have H := HA.out
       clear HA
       simp only [laws_FnExactTimesWalked.j2] at H
       have HC41 := Aside0.mk H
       clear H
       go_upto_if 53 with (fail)
       go_cut [] (fun wc => ∃ (kq : Nat), Aside0 (laws_FnExactTimesWalked.j3 kq l1 t296 t299 t305 t308 t311 l0_0 a0_1 t300 t303 = some r) ∧ Aside0 (kq ≤ kj17) ∧ Aside0 (Kd.R (Kd.int .i64) 3 wc w.heap.size (fun k_ => some k_ ≠ (v309 : Value).ownBlock ∧ some k_ ≠ ((.slice Ao28 t300.length co28) : Value).ownBlock ∧ ¬ D345_ k_ ∧ D346_ k_ ∧ D347_ k_ ∧ D348_ k_) v297 t296) ∧ Aside0 (Kd.S (Kd.slice 3 (Kd.int .i64)) 22 wc w.heap.size (fun k_ => some k_ ≠ (v297 : Value).ownBlock ∧ some k_ ≠ (v309 : Value).ownBlock ∧ some k_ ≠ ((.slice Ao28 t300.length co28) : Value).ownBlock ∧ ¬ D347_ k_ ∧ D348_ k_) (.slice Ao33 t305.length co33) t305) ∧ Aside0 (Kd.R (Kd.int .i64) 3 wc w.heap.size (fun k_ => some k_ ≠ (v297 : Value).ownBlock ∧ some k_ ≠ ((.slice Ao28 t300.length co28) : Value).ownBlock ∧ ¬ D348_ k_) v309 t308) ∧ Aside0 (Kd.R (Kd.int .i64) 3 wc w.heap.size (fun k_ => some k_ ≠ (v297 : Value).ownBlock ∧ some k_ ≠ (v309 : Value).ownBlock ∧ ¬ D346_ k_ ∧ D347_ k_ ∧ D348_ k_) (.slice Ao28 t300.length co28) t300) ∧ Aside0 (wc.heap[gb286]? = some (.cells #[(.slice A0_0 l0_0.length c0_0), .int .i64 a0_1] 62 (0, 0))) ∧ Aside0 (wc.heap[gb304]? = some (.cells #[(.slice Ao28 t300.length co28), .int .i64 t303] 69 (0, 0))) ∧ Aside0 (Below w.heap.size w wc))
       case first =>
        have H := HC41.out
        clear HC41
        by_cases c42 : x53_17 = true
        ·
         subst c42
         have H1 : (some false) = some r := by rw [if_pos rfl] at H; exact H
         clear H
         have H := H1
         clear H1
         obtain rfl := Option.some.inj H
         go_wp2
         go_ret
         exact ⟨by first | rfl | (simp [errW_none, errW_some] <;> rfl) | (simp [*, errW_none, errW_some] <;> rfl), by repeat (first | (with_reducible first | exact HB.out | apply below_alloc | apply pw_below_drewN | apply below_drew1 | refine below_set ?_ GE286.out | refine below_set ?_ GE304.out) | exact HB.out)⟩
        ·
         replace c42 := Bool.eq_false_iff.mpr c42
         subst c42
         have H1 : (laws_FnExactTimesWalked.j3 kj17 l1 t296 t299 t305 t308 t311 l0_0 a0_1 t300 t303) = some r := by rw [if_neg (show ¬ (false = true) by decide)] at H; exact H
         clear H
         have H := H1
         clear H1
         have H' := Aside0.mk H
         clear H
         go_wp2
         go_meet
         case rel => exact ⟨_, H', ⟨by have := HJ3.out; have := HJ9.out; have := HJ17.out; first | omega | exact Nat.le_refl _⟩, ⟨by (with_reducible repeat (first | apply Kd.R_alloc | apply Kd.R_drewN | apply Kd.R_drew)); exact HO_6.out⟩, ⟨by (with_reducible repeat (first | apply Kd.S_alloc | apply Kd.S_drewN | apply Kd.S_drew)); exact HO_9.out⟩, ⟨by (with_reducible repeat (first | apply Kd.R_alloc | apply Kd.R_drewN | apply Kd.R_drew)); exact HO_10.out⟩, ⟨by (with_reducible repeat (first | apply Kd.R_alloc | apply Kd.R_drewN | apply Kd.R_drew)); exact HO_305000.out⟩, ⟨by (with_reducible repeat (first | refine blk_drewN ?_ _ | refine blk_drew ?_ | refine blk_alloc ?_ _)); exact BK286.out⟩, ⟨by (with_reducible repeat (first | refine blk_drewN ?_ _ | refine blk_drew ?_ | refine blk_alloc ?_ _)); exact BK304.out⟩, ⟨by repeat (first | (with_reducible first | exact HB.out | apply below_alloc | apply pw_below_drewN | apply below_drew1 | refine below_set ?_ GE286.out | refine below_set ?_ GE304.out) | exact HB.out)⟩⟩
       case rest =>
        clear HC41
        try clear c1
        try clear c2
        try clear p2
        try clear c3
        try clear c4
        try clear c6
        try clear c8
        try clear c8b0
        try clear c11
        try clear c11b0
        try clear c14
        try clear c24
        try clear c26
        try clear c29
        try clear c36
        try clear c42
        try clear hcz19_0
        try clear hcz19_1
        try clear hcz25_0
        try clear hcz25_1
        try clear hcz30_0
        try clear hcz30_1
        try clear hcz32_0
        try clear hcz32_1
        try clear hcz6_0
        try clear hcz6_1
        try clear hfz19_0
        try clear hfz19_1
        try clear hfz25_0
        try clear hfz25_1
        try clear hfz30_0
        try clear hfz30_1
        try clear hfz32_0
        try clear hfz32_1
        try clear hfz6_0
        try clear hfz6_1
        try clear p2
        obtain ⟨kq, HA, HJ40, HO_6, HO_9, HO_10, HO_305000, BK286, BK304, HB⟩ := hcut
        cases kq with
        | zero => exact absurd HA.out (by simp [laws_FnExactTimesWalked.j3])
        | succ kj40 =>
         have H := HA.out
         clear HA
         simp only [laws_FnExactTimesWalked.j3] at H
         replace H := Option.bind_eq_some_iff.mp H
         obtain ⟨⟨t313, t316⟩, A430, H⟩ := H
         replace H : ((laws_eqParty.f kj40 t300 t303 t313 t316).bind fun t317 => (if t317 = true then (laws_FnExactTimesWalked.j4 kj40 l1 t296 t299 t305 t308 t311 l0_0 a0_1 t300 t303) else (some false))) = some r := H
         have A43 := Aside0.mk A430
         clear A430
         replace H := Option.bind_eq_some_iff.mp H
         obtain ⟨t317, A440, H⟩ := H
         replace H : (if t317 = true then (laws_FnExactTimesWalked.j4 kj40 l1 t296 t299 t305 t308 t311 l0_0 a0_1 t300 t303) else (some false)) = some r := H
         have A44 := Aside0.mk A440
         clear A440
         have HC45 := Aside0.mk H
         clear H
         try go_wp2
         have n0_ := Aside0.mk (Kd.R_drew HO_6.out)
         have n1_ := Aside0.mk (Kd.S_drew HO_9.out)
         have n2_ := Aside0.mk (Kd.R_drew HO_10.out)
         have n3_ := Aside0.mk (Kd.R_drew HO_305000.out)
         have n4_ := Aside0.mk (blk_drew BK286.out)
         have n5_ := Aside0.mk (blk_drew BK304.out)
         have n6_ := Aside0.mk (below_drew1 HB.out)
         clear HO_6
         clear HO_9
         clear HO_10
         clear HO_305000
         clear BK286
         clear BK304
         clear HB
         have HO_6 := n0_
         have HO_9 := n1_
         have HO_10 := n2_
         have HO_305000 := n3_
         have BK286 := n4_
         have BK304 := n5_
         have HB := n6_
         clear n0_ n1_ n2_ n3_ n4_ n5_ n6_
         refine start_ (n := 5) (S := fun w' => w'.cell? ⟨gb304, 0, none⟩ = some (.slice Ao28 t300.length co28) ∧ w'.cell? ⟨gb304, 1, none⟩ = some (.int .i64 t303) ∧ w'.cell? ⟨gb286, 0, none⟩ = some (.slice A0_0 l0_0.length c0_0) ∧ w'.cell? ⟨gb286, 1, none⟩ = some (.int .i64 a0_1)) (ds := []) #[false, false, false, false, false] (by kernel_rfl) rfl rfl ⟨(blk_cell BK304.out 0).trans rfl, (blk_cell BK304.out 1).trans rfl, (blk_cell BK286.out 0).trans rfl, (blk_cell BK286.out 1).trans rfl⟩ (fun hHeld => ?_)
         generalize wc.drew = w46 at HO_6 HO_9 HO_10 HO_305000 BK286 BK304 HB hHeld ⊢
         refine take_ (i := 0) (N := some 54) (v := ?_) (a' := ?_) #[true, false, false, false, false] rfl rfl (by kernel_rfl) (fun _ _ _ h => h) (Or.inl ⟨by rfl, ?_⟩) hHeld ?_ ?_
         rotate_left
         ·
          rintro w' ⟨s0, s1, s2, s3⟩
          go_simp
          with_reducible rfl
         rotate_left
         ·
          simp only [Act.put, List.setIfInBounds_toArray, List.set_cons_zero, List.set_cons_succ, i64_w, i32_w]
          rfl
         refine take_ (i := 1) (N := some 55) (v := ?_) (a' := ?_) #[true, true, false, false, false] rfl rfl (by kernel_rfl) (fun _ _ _ h => h) (Or.inl ⟨by rfl, ?_⟩) hHeld ?_ ?_
         rotate_left
         ·
          rintro w' ⟨s0, s1, s2, s3⟩
          go_simp
          with_reducible rfl
         rotate_left
         ·
          simp only [Act.put, List.setIfInBounds_toArray, List.set_cons_zero, List.set_cons_succ, i64_w, i32_w]
          rfl
         refine one_ (i := 2) (N := some 56) #[true, true, true, false, false] rfl rfl (by kernel_rfl) (by decide) (fun K hK => ?_)
         refine goes_ Try.func49 (by kernel_rfl) rfl #[.agg #[.slice A0_0 l0_0.length c0_0, .int .i64 a0_1]] (by rfl) rfl rfl (by (try simp only [List.map_toArray, List.map_cons, List.map_nil]); first | done | rfl | (simp only [List.length_drop, List.length_take]; rfl)) ?_
         with_reducible refine (laws_toParty.calls kj40 _ _ l0_0 a0_1 t313 t316 _ ?side1 ?side2 A43.out).mono ?_
         (case side1 => repeat (first | exact (Kd.C_below HR0_0.out HB.out) | (with_reducible refine Kd.C_alloc ?_ _) | (with_reducible refine Kd.C_drewN ?_ _) | (with_reducible refine Kd.C_drew ?_)))
         (case side2 => exact HC0_0.out)
         rintro e w47 ⟨v314, rfl, ho0, hb⟩
         refine ⟨_, rfl, ?_⟩
         have n0_ := Aside0.mk (Kd.R_elder' (by (with_reducible repeat (first | apply Kd.R_alloc | apply Kd.R_drewN | apply Kd.R_drew)); exact HO_6.out) (Kd.R_base ho0) hb)
         have n1_ := Aside0.mk (Kd.S_elder' (by (with_reducible repeat (first | apply Kd.S_alloc | apply Kd.S_drewN | apply Kd.S_drew)); exact HO_9.out) (Kd.R_base ho0) hb)
         have n2_ := Aside0.mk (Kd.R_elder' (by (with_reducible repeat (first | apply Kd.R_alloc | apply Kd.R_drewN | apply Kd.R_drew)); exact HO_10.out) (Kd.R_base ho0) hb)
         have n3_ := Aside0.mk (Kd.R_elder' (by (with_reducible repeat (first | apply Kd.R_alloc | apply Kd.R_drewN | apply Kd.R_drew)); exact HO_305000.out) (Kd.R_base ho0) hb)
         have n4_ := Aside0.mk (Kd.R_lower (Kd.R_new' (Kd.R_new' (Kd.R_new' ho0 (Kd.R_lt (by (with_reducible repeat (first | apply Kd.R_alloc | apply Kd.R_drewN | apply Kd.R_drew)); exact HO_6.out))) (Kd.R_lt (by (with_reducible repeat (first | apply Kd.R_alloc | apply Kd.R_drewN | apply Kd.R_drew)); exact HO_10.out))) (Kd.R_lt (by (with_reducible repeat (first | apply Kd.R_alloc | apply Kd.R_drewN | apply Kd.R_drew)); exact HO_305000.out))) (below_size (by repeat (first | (with_reducible first | exact HB.out | apply below_alloc | apply pw_below_drewN | apply below_drew1 | refine below_set ?_ GE286.out | refine below_set ?_ GE304.out) | exact HB.out))))
         have n5_ := Aside0.mk (blk_below (g := gb286) (o := .cells #[.slice A0_0 l0_0.length c0_0, .int .i64 a0_1] 62 (0, 0)) (by (with_reducible repeat (first | refine blk_drewN ?_ _ | refine blk_drew ?_ | refine blk_alloc ?_ _)); exact BK286.out) hb)
         have n6_ := Aside0.mk (blk_below (g := gb304) (o := .cells #[.slice Ao28 t300.length co28, .int .i64 t303] 69 (0, 0)) (by (with_reducible repeat (first | refine blk_drewN ?_ _ | refine blk_drew ?_ | refine blk_alloc ?_ _)); exact BK304.out) hb)
         have n7_ := Aside0.mk (below_step (by repeat (first | (with_reducible first | exact HB.out | apply below_alloc | apply pw_below_drewN | apply below_drew1 | refine below_set ?_ GE286.out | refine below_set ?_ GE304.out) | exact HB.out)) hb)
         clear HO_6
         clear HO_9
         clear HO_10
         clear HO_305000
         clear BK286
         clear BK304
         clear HB
         have HO_6 := n0_
         have HO_9 := n1_
         have HO_10 := n2_
         have HO_305000 := n3_
         have HO315 := n4_
         have BK286 := n5_
         have BK304 := n6_
         have HB := n7_
         clear n0_ n1_ n2_ n3_ n4_ n5_ n6_ n7_
         (try clear hb)
         (try clear hb2)
         (try clear hk)
         (try clear hi)
         (try clear ho0)
         obtain ⟨Ao48, co48, eo48⟩ := Kd.R_slice HO315.out
         (first | subst eo48 | (injection eo48 with f1_ f2_ f3_; have f4_ := f1_.symm; have f5_ := f3_.symm; clear f1_ f2_ f3_; subst f4_; subst f5_))
         refine hK.out _ _ ⟨(blk_cell BK304.out 0).trans rfl, (blk_cell BK304.out 1).trans rfl, (blk_cell BK286.out 0).trans rfl, (blk_cell BK286.out 1).trans rfl⟩ (fun hHeld => ?_)
         clear hK K
         refine norm_ (a' := ?_) ?_ ?_
         rotate_left
         ·
          show Act.put _ (some 56) _ = _
          simp only [Act.put, List.setIfInBounds_toArray, List.set_cons_zero, List.set_cons_succ, i64_w, i32_w]
          rfl
         refine one_ (i := 3) (N := some 57) #[true, true, true, true, false] rfl rfl (by kernel_rfl) (by decide) (fun K hK => ?_)
         refine goes_ Try.func52 (by kernel_rfl) rfl #[.agg #[.slice Ao28 t300.length co28, .int .i64 t303], .agg #[.slice Ao48 t313.length co48, .int .i64 t316]] (by rfl) rfl rfl (by (try simp only [List.map_toArray, List.map_cons, List.map_nil]); first | done | rfl | (simp only [List.length_drop, List.length_take]; rfl)) ?_
         with_reducible refine (laws_eqParty.calls kj40 _ _ t300 t303 _ _ t313 t316 t317 _ ?side1 ?side2 ?side3 ?side4 A44.out).mono ?_
         (case side1 => repeat (first | exact (Kd.R_reads' HO_305000.out).2.2 | (with_reducible refine Kd.C_alloc ?_ _) | (with_reducible refine Kd.C_drewN ?_ _) | (with_reducible refine Kd.C_drew ?_)))
         (case side2 => exact (Kd.R_reads' HO_305000.out).2.1)
         (case side3 => repeat (first | exact (Kd.R_reads' HO315.out).2.2 | (with_reducible refine Kd.C_alloc ?_ _) | (with_reducible refine Kd.C_drewN ?_ _) | (with_reducible refine Kd.C_drew ?_)))
         (case side4 => exact (Kd.R_reads' HO315.out).2.1)
         rintro e w49 ⟨rfl, hb⟩
         refine ⟨_, rfl, ?_⟩
         have n0_ := Aside0.mk (Kd.R_below (by (with_reducible repeat (first | apply Kd.R_alloc | apply Kd.R_drewN | apply Kd.R_drew)); exact HO_6.out) hb)
         have n1_ := Aside0.mk (Kd.S_below (by (with_reducible repeat (first | apply Kd.S_alloc | apply Kd.S_drewN | apply Kd.S_drew)); exact HO_9.out) hb)
         have n2_ := Aside0.mk (Kd.R_below (by (with_reducible repeat (first | apply Kd.R_alloc | apply Kd.R_drewN | apply Kd.R_drew)); exact HO_10.out) hb)
         have n3_ := Aside0.mk (Kd.R_below (by (with_reducible repeat (first | apply Kd.R_alloc | apply Kd.R_drewN | apply Kd.R_drew)); exact HO_305000.out) hb)
         have n4_ := Aside0.mk (Kd.R_below (by (with_reducible repeat (first | apply Kd.R_alloc | apply Kd.R_drewN | apply Kd.R_drew)); exact HO315.out) hb)
         have n5_ := Aside0.mk (blk_below (g := gb286) (o := .cells #[.slice A0_0 l0_0.length c0_0, .int .i64 a0_1] 62 (0, 0)) (by (with_reducible repeat (first | refine blk_drewN ?_ _ | refine blk_drew ?_ | refine blk_alloc ?_ _)); exact BK286.out) hb)
         have n6_ := Aside0.mk (blk_below (g := gb304) (o := .cells #[.slice Ao28 t300.length co28, .int .i64 t303] 69 (0, 0)) (by (with_reducible repeat (first | refine blk_drewN ?_ _ | refine blk_drew ?_ | refine blk_alloc ?_ _)); exact BK304.out) hb)
         have n7_ := Aside0.mk (below_step (by repeat (first | (with_reducible first | exact HB.out | apply below_alloc | apply pw_below_drewN | apply below_drew1 | refine below_set ?_ GE286.out | refine below_set ?_ GE304.out) | exact HB.out)) hb)
         clear HO_6
         clear HO_9
         clear HO_10
         clear HO_305000
         clear HO315
         clear BK286
         clear BK304
         clear HB
         have HO_6 := n0_
         have HO_9 := n1_
         have HO_10 := n2_
         have HO_305000 := n3_
         have HO315 := n4_
         have BK286 := n5_
         have BK304 := n6_
         have HB := n7_
         clear n0_ n1_ n2_ n3_ n4_ n5_ n6_ n7_
         (try clear hb)
         (try clear hb2)
         (try clear hk)
         (try clear hi)
         refine hK.out _ _ ⟨(blk_cell BK304.out 0).trans rfl, (blk_cell BK304.out 1).trans rfl, (blk_cell BK286.out 0).trans rfl, (blk_cell BK286.out 1).trans rfl⟩ (fun hHeld => ?_)
         clear hK K
         refine norm_ (a' := ?_) ?_ ?_
         rotate_left
         ·
          show Act.put _ (some 57) _ = _
          simp only [Act.put, List.setIfInBounds_toArray, List.set_cons_zero, List.set_cons_succ, i64_w, i32_w]
          rfl
         refine pure_ (i := 4) (N := some 58) (v := ?_) (a' := ?_) #[true, true, true, true, true] rfl rfl (by kernel_rfl) (fun _ _ _ h => h) (Or.inl ⟨by rfl, ?_⟩) ?_ ?_
         rotate_left
         ·
          intro w'
          go_simp
          with_reducible rfl
         rotate_left
         ·
          simp only [Act.put, List.setIfInBounds_toArray, List.set_cons_zero, List.set_cons_succ, i64_w, i32_w]
          rfl
         refine done_ (by kernel_rfl) ?_
         go_upto_if 58 with (fail)
         go_cut [] (fun wc => ∃ (kq : Nat), Aside0 (laws_FnExactTimesWalked.j4 kq l1 t296 t299 t305 t308 t311 l0_0 a0_1 t300 t303 = some r) ∧ Aside0 (kq ≤ kj40) ∧ Aside0 (Kd.R (Kd.int .i64) 3 wc w.heap.size (fun k_ => some k_ ≠ (v309 : Value).ownBlock ∧ some k_ ≠ ((.slice Ao28 t300.length co28) : Value).ownBlock ∧ ¬ D345_ k_ ∧ D346_ k_ ∧ D347_ k_ ∧ D348_ k_) v297 t296) ∧ Aside0 (Kd.S (Kd.slice 3 (Kd.int .i64)) 22 wc w.heap.size (fun k_ => some k_ ≠ (v297 : Value).ownBlock ∧ some k_ ≠ (v309 : Value).ownBlock ∧ some k_ ≠ ((.slice Ao28 t300.length co28) : Value).ownBlock ∧ ¬ D347_ k_ ∧ D348_ k_) (.slice Ao33 t305.length co33) t305) ∧ Aside0 (Kd.R (Kd.int .i64) 3 wc w.heap.size (fun k_ => some k_ ≠ (v297 : Value).ownBlock ∧ some k_ ≠ ((.slice Ao28 t300.length co28) : Value).ownBlock ∧ ¬ D348_ k_) v309 t308) ∧ Aside0 (Kd.R (Kd.int .i64) 3 wc w.heap.size (fun k_ => some k_ ≠ (v297 : Value).ownBlock ∧ some k_ ≠ (v309 : Value).ownBlock ∧ ¬ D346_ k_ ∧ D347_ k_ ∧ D348_ k_) (.slice Ao28 t300.length co28) t300) ∧ Aside0 (wc.heap[gb286]? = some (.cells #[(.slice A0_0 l0_0.length c0_0), .int .i64 a0_1] 62 (0, 0))) ∧ Aside0 (wc.heap[gb304]? = some (.cells #[(.slice Ao28 t300.length co28), .int .i64 t303] 69 (0, 0))) ∧ Aside0 (Below w.heap.size w wc))
         case first =>
          have H := HC45.out
          clear HC45
          by_cases c50 : t317 = true
          ·
           subst c50
           have H1 : (laws_FnExactTimesWalked.j4 kj40 l1 t296 t299 t305 t308 t311 l0_0 a0_1 t300 t303) = some r := by rw [if_pos rfl] at H; exact H
           clear H
           have H := H1
           clear H1
           have H' := Aside0.mk H
           clear H
           go_wp2
           go_meet
           case rel => exact ⟨_, H', ⟨by have := HJ3.out; have := HJ9.out; have := HJ17.out; have := HJ40.out; first | omega | exact Nat.le_refl _⟩, ⟨by (with_reducible repeat (first | apply Kd.R_alloc | apply Kd.R_drewN | apply Kd.R_drew)); exact Kd.R_mono HO_6.out (fun _ hk => ⟨hk.1.1, ⟨hk.1.2.1, ⟨hk.1.2.2.1, ⟨hk.1.2.2.2.1, ⟨hk.1.2.2.2.2.1, hk.1.2.2.2.2.2⟩⟩⟩⟩⟩)⟩, ⟨by (with_reducible repeat (first | apply Kd.S_alloc | apply Kd.S_drewN | apply Kd.S_drew)); exact Kd.S_mono HO_9.out (fun _ hk => ⟨hk.1.1, ⟨hk.1.2.1, ⟨hk.1.2.2.1, ⟨hk.1.2.2.2.1, hk.1.2.2.2.2⟩⟩⟩⟩)⟩, ⟨by (with_reducible repeat (first | apply Kd.R_alloc | apply Kd.R_drewN | apply Kd.R_drew)); exact Kd.R_mono HO_10.out (fun _ hk => ⟨hk.1.1, ⟨hk.1.2.1, hk.1.2.2⟩⟩)⟩, ⟨by (with_reducible repeat (first | apply Kd.R_alloc | apply Kd.R_drewN | apply Kd.R_drew)); exact Kd.R_mono HO_305000.out (fun _ hk => ⟨hk.1.1, ⟨hk.1.2.1, ⟨hk.1.2.2.1, ⟨hk.1.2.2.2.1, hk.1.2.2.2.2⟩⟩⟩⟩)⟩, ⟨by (with_reducible repeat (first | refine blk_drewN ?_ _ | refine blk_drew ?_ | refine blk_alloc ?_ _)); exact BK286.out⟩, ⟨by (with_reducible repeat (first | refine blk_drewN ?_ _ | refine blk_drew ?_ | refine blk_alloc ?_ _)); exact BK304.out⟩, ⟨by repeat (first | (with_reducible first | exact HB.out | apply below_alloc | apply pw_below_drewN | apply below_drew1 | refine below_set ?_ GE286.out | refine below_set ?_ GE304.out) | exact HB.out)⟩⟩
          ·
           replace c50 := Bool.eq_false_iff.mpr c50
           subst c50
           have H1 : (some false) = some r := by rw [if_neg (show ¬ (false = true) by decide)] at H; exact H
           clear H
           have H := H1
           clear H1
           obtain rfl := Option.some.inj H
           go_wp2
           go_ret
           exact ⟨by first | rfl | (simp [errW_none, errW_some] <;> rfl) | (simp [*, errW_none, errW_some] <;> rfl), by repeat (first | (with_reducible first | exact HB.out | apply below_alloc | apply pw_below_drewN | apply below_drew1 | refine below_set ?_ GE286.out | refine below_set ?_ GE304.out) | exact HB.out)⟩
         case rest =>
          clear HC45
          try clear c1
          try clear c2
          try clear p2
          try clear c3
          try clear c4
          try clear c5
          try clear c6
          try clear c8
          try clear c8b0
          try clear c11
          try clear c11b0
          try clear c14
          try clear c24
          try clear c26
          try clear c29
          try clear c36
          try clear c42
          try clear c46
          try clear c49
          try clear c50
          try clear hcz19_0
          try clear hcz19_1
          try clear hcz25_0
          try clear hcz25_1
          try clear hcz30_0
          try clear hcz30_1
          try clear hcz32_0
          try clear hcz32_1
          try clear hcz6_0
          try clear hcz6_1
          try clear hfz19_0
          try clear hfz19_1
          try clear hfz25_0
          try clear hfz25_1
          try clear hfz30_0
          try clear hfz30_1
          try clear hfz32_0
          try clear hfz32_1
          try clear hfz6_0
          try clear hfz6_1
          try clear p2
          obtain ⟨kq, HA, HJ44, HO_6, HO_9, HO_10, HO_305000, BK286, BK304, HB⟩ := hcut
          cases kq with
          | zero => exact absurd HA.out (by simp [laws_FnExactTimesWalked.j4])
          | succ kj44 =>
           have H := HA.out
           clear HA
           simp only [laws_FnExactTimesWalked.j4] at H
           replace H := Option.bind_eq_some_iff.mp H
           obtain ⟨t318, A510, H⟩ := H
           replace H : ((laws_eqIntSS.f kj44 t305 t318).bind fun t321 => (if t321 = true then (laws_FnExactTimesWalked.j5 kj44 l1 t296 t299 t305 t308 t311 l0_0 a0_1 t300 t303) else (some false))) = some r := H
           have A51 := Aside0.mk A510
           clear A510
           replace H := Option.bind_eq_some_iff.mp H
           obtain ⟨t321, A520, H⟩ := H
           replace H : (if t321 = true then (laws_FnExactTimesWalked.j5 kj44 l1 t296 t299 t305 t308 t311 l0_0 a0_1 t300 t303) else (some false)) = some r := H
           have A52 := Aside0.mk A520
           clear A520
           have HC53 := Aside0.mk H
           clear H
           go_upto_if 63 with (first | ((with_reducible refine gate_callee (f := 26) rfl ?_); refine goesL_ (some 61) rfl rfl Try.func26 (by kernel_rfl) rfl #[.slice A1 l1.length c1] rfl (by (try simp only [List.map_toArray, List.map_cons, List.map_nil]); first | done | rfl | (simp only [List.length_drop, List.length_take]; rfl)) ?_; (with_reducible refine (laws_toIntSS.calls kj44 _ _ l1 t318 _ ?side1 ?side2 A51.out).mono ?_); (case side1 => repeat (first | exact (Kd.C_below HR1.out HB.out) | (with_reducible refine Kd.C_alloc ?_ _) | (with_reducible refine Kd.C_drewN ?_ _) | (with_reducible refine Kd.C_drew ?_))); (case side2 => exact HC1.out); rintro e w54 ⟨v319, rfl, ho0, hb⟩; refine ⟨_, rfl, ?_⟩; obtain ⟨D349_, hdl_, hdg_⟩ := dlt_of hb; have D349_lt := Aside0.mk hdl_; have D349_ge := Aside0.mk hdg_; clear hdl_ hdg_; have n0_ := Aside0.mk (Kd.R_below (Kd.R_dlt (by (with_reducible repeat (first | apply Kd.R_alloc | apply Kd.R_drewN | apply Kd.R_drew)); exact HO_6.out) D349_lt.out) hb); have n1_ := Aside0.mk (Kd.S_elder' (Kd.S_dlt (by (with_reducible repeat (first | apply Kd.S_alloc | apply Kd.S_drewN | apply Kd.S_drew)); exact HO_9.out) D349_lt.out) (Kd.S_base ho0) hb); have n2_ := Aside0.mk (Kd.R_below (Kd.R_dlt (by (with_reducible repeat (first | apply Kd.R_alloc | apply Kd.R_drewN | apply Kd.R_drew)); exact HO_10.out) D349_lt.out) hb); have n3_ := Aside0.mk (Kd.R_below (Kd.R_dlt (by (with_reducible repeat (first | apply Kd.R_alloc | apply Kd.R_drewN | apply Kd.R_drew)); exact HO_305000.out) D349_lt.out) hb); have n4_ := Aside0.mk (Kd.S_lower (Kd.S_new' (Kd.S_new' (Kd.S_new' (Kd.S_new' (Kd.S_dge ho0 D349_ge.out) (Kd.R_lt (by (with_reducible repeat (first | apply Kd.R_alloc | apply Kd.R_drewN | apply Kd.R_drew)); exact HO_6.out))) (Kd.S_lt (by (with_reducible repeat (first | apply Kd.S_alloc | apply Kd.S_drewN | apply Kd.S_drew)); exact HO_9.out))) (Kd.R_lt (by (with_reducible repeat (first | apply Kd.R_alloc | apply Kd.R_drewN | apply Kd.R_drew)); exact HO_10.out))) (Kd.R_lt (by (with_reducible repeat (first | apply Kd.R_alloc | apply Kd.R_drewN | apply Kd.R_drew)); exact HO_305000.out))) (below_size (by repeat (first | (with_reducible first | exact HB.out | apply below_alloc | apply pw_below_drewN | apply below_drew1 | refine below_set ?_ GE286.out | refine below_set ?_ GE304.out) | exact HB.out)))); have n5_ := Aside0.mk (blk_below (g := gb286) (o := .cells #[.slice A0_0 l0_0.length c0_0, .int .i64 a0_1] 62 (0, 0)) (by (with_reducible repeat (first | refine blk_drewN ?_ _ | refine blk_drew ?_ | refine blk_alloc ?_ _)); exact BK286.out) hb); have n6_ := Aside0.mk (blk_below (g := gb304) (o := .cells #[.slice Ao28 t300.length co28, .int .i64 t303] 69 (0, 0)) (by (with_reducible repeat (first | refine blk_drewN ?_ _ | refine blk_drew ?_ | refine blk_alloc ?_ _)); exact BK304.out) hb); have n7_ := Aside0.mk (below_step (by repeat (first | (with_reducible first | exact HB.out | apply below_alloc | apply pw_below_drewN | apply below_drew1 | refine below_set ?_ GE286.out | refine below_set ?_ GE304.out) | exact HB.out)) hb); clear HO_6; clear HO_9; clear HO_10; clear HO_305000; clear BK286; clear BK304; clear HB; have HO_6 := n0_; have HO_9 := n1_; have HO_10 := n2_; have HO_305000 := n3_; have HO320 := n4_; have BK286 := n5_; have BK304 := n6_; have HB := n7_; clear n0_ n1_ n2_ n3_ n4_ n5_ n6_ n7_; (try clear hb); (try clear hb2); (try clear hk); (try clear hi); (try clear ho0); obtain ⟨Ao55, co55, eo55⟩ := Kd.S_slice HO320.out; subst eo55) | ((with_reducible refine gate_callee (f := 28) rfl ?_); refine goesL_ (some 62) rfl rfl Try.func28 (by kernel_rfl) rfl #[.slice Ao33 t305.length co33, .slice Ao55 t318.length co55] rfl (by (try simp only [List.map_toArray, List.map_cons, List.map_nil]); first | done | rfl | (simp only [List.length_drop, List.length_take]; rfl)) ?_; (with_reducible refine (laws_eqIntSS.calls kj44 _ _ t305 _ _ t318 t321 _ ?side1 ?side2 ?side3 ?side4 A52.out).mono ?_); (case side1 => repeat (first | exact (Kd.S_reads' HO_9.out).2.2 | (with_reducible refine Kd.C_alloc ?_ _) | (with_reducible refine Kd.C_drewN ?_ _) | (with_reducible refine Kd.C_drew ?_))); (case side2 => exact (Kd.S_reads' HO_9.out).2.1); (case side3 => repeat (first | exact (Kd.S_reads' HO320.out).2.2 | (with_reducible refine Kd.C_alloc ?_ _) | (with_reducible refine Kd.C_drewN ?_ _) | (with_reducible refine Kd.C_drew ?_))); (case side4 => exact (Kd.S_reads' HO320.out).2.1); rintro e w' ⟨rfl, ⟨nd, rfl⟩⟩; refine ⟨_, rfl, ?_⟩))
           (try simp only [Act.put, List.setIfInBounds_toArray, List.set_cons_zero, List.set_cons_succ])
           go_cut [] (fun wc => ∃ (kq : Nat), Aside0 (laws_FnExactTimesWalked.j5 kq l1 t296 t299 t305 t308 t311 l0_0 a0_1 t300 t303 = some r) ∧ Aside0 (kq ≤ kj44) ∧ Aside0 (Kd.R (Kd.int .i64) 3 wc w.heap.size (fun k_ => some k_ ≠ (v309 : Value).ownBlock ∧ some k_ ≠ ((.slice Ao28 t300.length co28) : Value).ownBlock ∧ ¬ D345_ k_ ∧ D346_ k_ ∧ D347_ k_ ∧ D348_ k_ ∧ D349_ k_) v297 t296) ∧ Aside0 (Kd.S (Kd.slice 3 (Kd.int .i64)) 22 wc w.heap.size (fun k_ => some k_ ≠ (v297 : Value).ownBlock ∧ some k_ ≠ (v309 : Value).ownBlock ∧ some k_ ≠ ((.slice Ao28 t300.length co28) : Value).ownBlock ∧ ¬ D347_ k_ ∧ D348_ k_ ∧ D349_ k_) (.slice Ao33 t305.length co33) t305) ∧ Aside0 (Kd.R (Kd.int .i64) 3 wc w.heap.size (fun k_ => some k_ ≠ (v297 : Value).ownBlock ∧ some k_ ≠ ((.slice Ao28 t300.length co28) : Value).ownBlock ∧ ¬ D348_ k_ ∧ D349_ k_) v309 t308) ∧ Aside0 (Kd.R (Kd.int .i64) 3 wc w.heap.size (fun k_ => some k_ ≠ (v297 : Value).ownBlock ∧ some k_ ≠ (v309 : Value).ownBlock ∧ ¬ D346_ k_ ∧ D347_ k_ ∧ D348_ k_ ∧ D349_ k_) (.slice Ao28 t300.length co28) t300) ∧ Aside0 (wc.heap[gb286]? = some (.cells #[(.slice A0_0 l0_0.length c0_0), .int .i64 a0_1] 62 (0, 0))) ∧ Aside0 (wc.heap[gb304]? = some (.cells #[(.slice Ao28 t300.length co28), .int .i64 t303] 69 (0, 0))) ∧ Aside0 (Below w.heap.size w wc))
           case first =>
            have H := HC53.out
            clear HC53
            by_cases c56 : t321 = true
            ·
             subst c56
             have H1 : (laws_FnExactTimesWalked.j5 kj44 l1 t296 t299 t305 t308 t311 l0_0 a0_1 t300 t303) = some r := by rw [if_pos rfl] at H; exact H
             clear H
             have H := H1
             clear H1
             have H' := Aside0.mk H
             clear H
             go_wp2
             go_meet
             case rel => exact ⟨_, H', ⟨by have := HJ3.out; have := HJ9.out; have := HJ17.out; have := HJ40.out; have := HJ44.out; first | omega | exact Nat.le_refl _⟩, ⟨by (with_reducible repeat (first | apply Kd.R_alloc | apply Kd.R_drewN | apply Kd.R_drew)); exact Kd.R_mono HO_6.out (fun _ hk => ⟨hk.1.1, ⟨hk.1.2.1, ⟨hk.1.2.2.1, ⟨hk.1.2.2.2.1, ⟨hk.1.2.2.2.2.1, ⟨hk.1.2.2.2.2.2, hk.2⟩⟩⟩⟩⟩⟩)⟩, ⟨by (with_reducible repeat (first | apply Kd.S_alloc | apply Kd.S_drewN | apply Kd.S_drew)); exact Kd.S_mono HO_9.out (fun _ hk => ⟨hk.1.1.1, ⟨hk.1.1.2.1, ⟨hk.1.1.2.2.1, ⟨hk.1.1.2.2.2.1, ⟨hk.1.1.2.2.2.2, hk.1.2⟩⟩⟩⟩⟩)⟩, ⟨by (with_reducible repeat (first | apply Kd.R_alloc | apply Kd.R_drewN | apply Kd.R_drew)); exact Kd.R_mono HO_10.out (fun _ hk => ⟨hk.1.1, ⟨hk.1.2.1, ⟨hk.1.2.2, hk.2⟩⟩⟩)⟩, ⟨by (with_reducible repeat (first | apply Kd.R_alloc | apply Kd.R_drewN | apply Kd.R_drew)); exact Kd.R_mono HO_305000.out (fun _ hk => ⟨hk.1.1, ⟨hk.1.2.1, ⟨hk.1.2.2.1, ⟨hk.1.2.2.2.1, ⟨hk.1.2.2.2.2, hk.2⟩⟩⟩⟩⟩)⟩, ⟨by (with_reducible repeat (first | refine blk_drewN ?_ _ | refine blk_drew ?_ | refine blk_alloc ?_ _)); exact BK286.out⟩, ⟨by (with_reducible repeat (first | refine blk_drewN ?_ _ | refine blk_drew ?_ | refine blk_alloc ?_ _)); exact BK304.out⟩, ⟨by repeat (first | (with_reducible first | exact HB.out | apply below_alloc | apply pw_below_drewN | apply below_drew1 | refine below_set ?_ GE286.out | refine below_set ?_ GE304.out) | exact HB.out)⟩⟩
            ·
             replace c56 := Bool.eq_false_iff.mpr c56
             subst c56
             have H1 : (some false) = some r := by rw [if_neg (show ¬ (false = true) by decide)] at H; exact H
             clear H
             have H := H1
             clear H1
             obtain rfl := Option.some.inj H
             go_wp2
             go_ret
             exact ⟨by first | rfl | (simp [errW_none, errW_some] <;> rfl) | (simp [*, errW_none, errW_some] <;> rfl), by repeat (first | (with_reducible first | exact HB.out | apply below_alloc | apply pw_below_drewN | apply below_drew1 | refine below_set ?_ GE286.out | refine below_set ?_ GE304.out) | exact HB.out)⟩
           case rest =>
            clear HC53
            try clear c1
            try clear c2
            try clear p2
            try clear c3
            try clear c4
            try clear c5
            try clear c6
            try clear c8
            try clear c8b0
            try clear c11
            try clear c11b0
            try clear c14
            try clear c24
            try clear c26
            try clear c28
            try clear c29
            try clear c36
            try clear c42
            try clear c46
            try clear c49
            try clear c50
            try clear c52
            try clear c56
            try clear hcz19_0
            try clear hcz19_1
            try clear hcz25_0
            try clear hcz25_1
            try clear hcz30_0
            try clear hcz30_1
            try clear hcz32_0
            try clear hcz32_1
            try clear hcz6_0
            try clear hcz6_1
            try clear hfz19_0
            try clear hfz19_1
            try clear hfz25_0
            try clear hfz25_1
            try clear hfz30_0
            try clear hfz30_1
            try clear hfz32_0
            try clear hfz32_1
            try clear hfz6_0
            try clear hfz6_1
            try clear p2
            obtain ⟨kq, HA, HJ52, HO_6, HO_9, HO_10, HO_305000, BK286, BK304, HB⟩ := hcut
            cases kq with
            | zero => exact absurd HA.out (by simp [laws_FnExactTimesWalked.j5])
            | succ kj52 =>
             have H := HA.out
             clear HA
             simp only [laws_FnExactTimesWalked.j5] at H
             replace H := Option.bind_eq_some_iff.mp H
             obtain ⟨⟨t322, t323⟩, A570, H⟩ := H
             replace H : ((laws_markIntSS.f t305 t322).bind fun bt324 => (if bt324.1 < 0 then (laws_FnExactTimesWalked.j6 kj52 l1 t296 t299 t308 true l0_0 a0_1) else ((laws_eqIntS.f kj52 t308 t296).bind fun t326 => (if t326 = true then (laws_FnExactTimesWalked.j6 kj52 l1 t296 t299 t308 (t311 != t299) l0_0 a0_1) else (laws_FnExactTimesWalked.j6 kj52 l1 t296 t299 t308 true l0_0 a0_1))))) = some r := H
             have A57 := Aside0.mk A570
             clear A570
             replace H := Option.bind_eq_some_iff.mp H
             obtain ⟨⟨t324, t325⟩, A580, H⟩ := H
             replace H : (if t324 < 0 then (laws_FnExactTimesWalked.j6 kj52 l1 t296 t299 t308 true l0_0 a0_1) else ((laws_eqIntS.f kj52 t308 t296).bind fun t326 => (if t326 = true then (laws_FnExactTimesWalked.j6 kj52 l1 t296 t299 t308 (t311 != t299) l0_0 a0_1) else (laws_FnExactTimesWalked.j6 kj52 l1 t296 t299 t308 true l0_0 a0_1)))) = some r := H
             have A58 := Aside0.mk A580
             clear A580
             have HC59 := Aside0.mk H
             clear H
             have hnb60 := NB304_286.out
             have hnc60 := NB286_304.out
             have hcz61_0 : wc.cell? ⟨gb304, 0, none⟩ = some (.slice Ao28 t300.length co28) := (blk_cell BK304.out 0).trans rfl
             have hcz61_1 : wc.cell? ⟨gb304, 1, none⟩ = some (.int .i64 t303) := (blk_cell BK304.out 1).trans rfl
             have hfz61_0 := blk_frozen BK304.out 0
             have hfz61_1 := blk_frozen BK304.out 1
             go_upto_region 21 with (first | ((with_reducible refine gate_callee (f := 54) rfl ?_); refine goesL_ (some 66) rfl rfl Try.func54 (by kernel_rfl) rfl #[.agg #[.slice Ao28 t300.length co28, .int .i64 t303], .int .i64 1] rfl (by (try simp only [List.map_toArray, List.map_cons, List.map_nil]); first | done | rfl | (simp only [List.length_drop, List.length_take]; rfl)) ?_; (with_reducible refine (laws_markParty.calls kj52 (fun k_ => some k_ = (.slice Ao28 t300.length co28 : Value).ownBlock) (.slice Ao28 t300.length co28) t300 t303 1 t322 t323 w _ ?side1 ?side2 A57.out).mono ?_); (case side1 => repeat (first | (with_reducible first | exact HB.out | apply below_alloc | apply pw_below_drewN | apply below_drew1 | refine below_set ?_ GE286.out | refine below_set ?_ GE304.out) | exact HB.out)); (case side2 => exact Kd.R_tight rfl HO_305000.out); rintro e w62 ⟨rfl, hy0, hb, hkp⟩; refine ⟨_, rfl, ?_⟩; have n0_ := Aside0.mk (Kd.R_mono (ok' := fun k_ => some k_ ≠ (v309 : Value).ownBlock ∧ some k_ ≠ (.slice Ao28 t300.length co28 : Value).ownBlock ∧ ¬ D345_ k_ ∧ D346_ k_ ∧ D347_ k_ ∧ D348_ k_ ∧ D349_ k_) (Kd.R_keptB (HO_6.out) hkp (fun k_ hk_ hs_ => (hk_.2.1) hs_)) (fun k_ hk_ => ⟨hk_.1.1, hk_.1.2.1, hk_.1.2.2.1, hk_.1.2.2.2.1, hk_.1.2.2.2.2.1, hk_.1.2.2.2.2.2.1, hk_.1.2.2.2.2.2.2⟩)); have n1_ := Aside0.mk (Kd.S_mono (ok' := fun k_ => some k_ ≠ (v297 : Value).ownBlock ∧ some k_ ≠ (v309 : Value).ownBlock ∧ some k_ ≠ (.slice Ao28 t300.length co28 : Value).ownBlock ∧ ¬ D347_ k_ ∧ D348_ k_ ∧ D349_ k_) (Kd.S_keptB (HO_9.out) hkp (fun k_ hk_ hs_ => (hk_.2.2.1) hs_)) (fun k_ hk_ => ⟨hk_.1.1, hk_.1.2.1, hk_.1.2.2.1, hk_.1.2.2.2.1, hk_.1.2.2.2.2.1, hk_.1.2.2.2.2.2⟩)); have n2_ := Aside0.mk (Kd.R_mono (ok' := fun k_ => some k_ ≠ (v297 : Value).ownBlock ∧ some k_ ≠ (.slice Ao28 t300.length co28 : Value).ownBlock ∧ ¬ D348_ k_ ∧ D349_ k_) (Kd.R_keptB (HO_10.out) hkp (fun k_ hk_ hs_ => (hk_.2.1) hs_)) (fun k_ hk_ => ⟨hk_.1.1, hk_.1.2.1, hk_.1.2.2.1, hk_.1.2.2.2⟩)); have n3_ := Aside0.mk (Kd.R_reok rfl hy0 (fun k_ e_ => HO_305000.out.1 k_ e_)); have n4_ := Aside0.mk (blk_kept (by (with_reducible repeat (first | refine blk_drewN ?_ _ | refine blk_drew ?_ | refine blk_alloc ?_ _)); exact BK286.out) hkp (fun hs_ => (fun e_ => (Kd.R_ne HO_305000.out BK286.out (by decide)) e_) hs_)); have n5_ := Aside0.mk (blk_kept (by (with_reducible repeat (first | refine blk_drewN ?_ _ | refine blk_drew ?_ | refine blk_alloc ?_ _)); exact BK304.out) hkp (fun hs_ => (fun e_ => (Kd.R_ne HO_305000.out BK304.out (by decide)) e_) hs_)); have n6_ := Aside0.mk (hb); clear HO_6; clear HO_9; clear HO_10; clear HO_305000; clear BK286; clear BK304; clear HB; have HO_6 := n0_; have HO_9 := n1_; have HO_10 := n2_; have HO_305000 := n3_; have BK286 := n4_; have BK304 := n5_; have HB := n6_; clear n0_ n1_ n2_ n3_ n4_ n5_ n6_; (try clear hb); (try clear hkp); (try clear hy0)) | ((with_reducible refine gate_callee (f := 40) rfl ?_); refine goesL_ (some 69) rfl rfl Try.func40 (by kernel_rfl) rfl #[.slice Ao33 t305.length co33, .int .i64 t322] rfl (by (try simp only [List.map_toArray, List.map_cons, List.map_nil]); first | done | rfl | (simp only [List.length_drop, List.length_take]; rfl)) ?_; (with_reducible refine (laws_markIntSS.calls (fun k_ => (some k_ ≠ (v297 : Value).ownBlock ∧ (some k_ ≠ (v309 : Value).ownBlock ∧ (some k_ ≠ (.slice Ao28 t300.length co28 : Value).ownBlock ∧ (¬ D347_ k_ ∧ (D348_ k_ ∧ (D349_ k_ ∧ (k_ ≠ gb286 ∧ k_ ≠ gb304)))))))) (.slice Ao33 t305.length co33) t305 t322 t324 t325 w _ ?side1 ?side2 A58.out).mono ?_); (case side1 => repeat (first | (with_reducible first | exact HB.out | apply below_alloc | apply pw_below_drewN | apply below_drew1 | refine below_set ?_ GE286.out | refine below_set ?_ GE304.out) | exact HB.out)); (case side2 => exact (by (with_reducible repeat (first | apply Kd.S_alloc | apply Kd.S_drewN | apply Kd.S_drew)); exact (Kd.S_mono (ok' := fun k_ => (some k_ ≠ (v297 : Value).ownBlock ∧ (some k_ ≠ (v309 : Value).ownBlock ∧ (some k_ ≠ (.slice Ao28 t300.length co28 : Value).ownBlock ∧ (¬ D347_ k_ ∧ (D348_ k_ ∧ (D349_ k_ ∧ (k_ ≠ gb286 ∧ k_ ≠ gb304)))))))) (Kd.S_types (Kd.S_types HO_9.out BK286.out (by decide)) BK304.out (by decide)) (fun k_ hk_ => ⟨hk_.1.1.1, ⟨hk_.1.1.2.1, ⟨hk_.1.1.2.2.1, ⟨hk_.1.1.2.2.2.1, ⟨hk_.1.1.2.2.2.2.1, ⟨hk_.1.1.2.2.2.2.2, ⟨hk_.1.2, hk_.2⟩⟩⟩⟩⟩⟩⟩)))); rintro e w63 ⟨rfl, hy0, hb, hkp⟩; refine ⟨_, rfl, ?_⟩; have n0_ := Aside0.mk (Kd.R_mono (ok' := fun k_ => some k_ ≠ (v309 : Value).ownBlock ∧ some k_ ≠ (.slice Ao28 t300.length co28 : Value).ownBlock ∧ ¬ D345_ k_ ∧ D346_ k_ ∧ D347_ k_ ∧ D348_ k_ ∧ D349_ k_) (Kd.R_keptB (HO_6.out) hkp (fun k_ hk_ hs_ => (fun e_ => (e_.2.2.2.1) (hk_.2.2.2.2.1)) hs_)) (fun k_ hk_ => ⟨hk_.1.1, hk_.1.2.1, hk_.1.2.2.1, hk_.1.2.2.2.1, hk_.1.2.2.2.2.1, hk_.1.2.2.2.2.2.1, hk_.1.2.2.2.2.2.2⟩)); have n1_ := Aside0.mk (hy0); have n2_ := Aside0.mk (Kd.R_mono (ok' := fun k_ => some k_ ≠ (v297 : Value).ownBlock ∧ some k_ ≠ (.slice Ao28 t300.length co28 : Value).ownBlock ∧ ¬ D348_ k_ ∧ D349_ k_) (Kd.R_keptB (HO_10.out) hkp (fun k_ hk_ hs_ => (fun e_ => (hk_.2.2.1) (e_.2.2.2.2.1)) hs_)) (fun k_ hk_ => ⟨hk_.1.1, hk_.1.2.1, hk_.1.2.2.1, hk_.1.2.2.2⟩)); have n3_ := Aside0.mk (Kd.R_mono (ok' := fun k_ => some k_ ≠ (v297 : Value).ownBlock ∧ some k_ ≠ (v309 : Value).ownBlock ∧ ¬ D346_ k_ ∧ D347_ k_ ∧ D348_ k_ ∧ D349_ k_) (Kd.R_keptB (HO_305000.out) hkp (fun k_ hk_ hs_ => (fun e_ => (e_.2.2.2.1) (hk_.2.2.2.1)) hs_)) (fun k_ hk_ => ⟨hk_.1.1, hk_.1.2.1, hk_.1.2.2.1, hk_.1.2.2.2.1, hk_.1.2.2.2.2.1, hk_.1.2.2.2.2.2⟩)); have n4_ := Aside0.mk (blk_kept (by (with_reducible repeat (first | refine blk_drewN ?_ _ | refine blk_drew ?_ | refine blk_alloc ?_ _)); exact BK286.out) hkp (fun hs_ => (fun e_ => (e_.2.2.2.2.2.2.1) rfl) hs_)); have n5_ := Aside0.mk (blk_kept (by (with_reducible repeat (first | refine blk_drewN ?_ _ | refine blk_drew ?_ | refine blk_alloc ?_ _)); exact BK304.out) hkp (fun hs_ => (fun e_ => (e_.2.2.2.2.2.2.2) rfl) hs_)); have n6_ := Aside0.mk (hb); clear HO_6; clear HO_9; clear HO_10; clear HO_305000; clear BK286; clear BK304; clear HB; have HO_6 := n0_; have HO_9 := n1_; have HO_10 := n2_; have HO_305000 := n3_; have BK286 := n4_; have BK304 := n5_; have HB := n6_; clear n0_ n1_ n2_ n3_ n4_ n5_ n6_; (try clear hb); (try clear hkp); (try clear hy0)))
             (try simp only [Act.put, List.setIfInBounds_toArray, List.set_cons_zero, List.set_cons_succ])
             go_cut [82] (fun v82 wc => ∃ (kq : Nat) (x82_58 : Bool), v82 = .bool x82_58 ∧ Aside0 (laws_FnExactTimesWalked.j6 kq l1 t296 t299 t308 x82_58 l0_0 a0_1 = some r) ∧ Aside0 (kq ≤ kj52) ∧ Aside0 (Kd.R (Kd.int .i64) 3 wc w.heap.size (fun k_ => some k_ ≠ (v309 : Value).ownBlock ∧ some k_ ≠ ((.slice Ao28 t300.length co28) : Value).ownBlock ∧ ¬ D345_ k_ ∧ D346_ k_ ∧ D347_ k_ ∧ D348_ k_ ∧ D349_ k_) v297 t296) ∧ Aside0 (Kd.R (Kd.int .i64) 3 wc w.heap.size (fun k_ => some k_ ≠ (v297 : Value).ownBlock ∧ some k_ ≠ ((.slice Ao28 t300.length co28) : Value).ownBlock ∧ ¬ D348_ k_ ∧ D349_ k_) v309 t308) ∧ Aside0 (Kd.R (Kd.int .i64) 3 wc w.heap.size (fun k_ => some k_ ≠ (v297 : Value).ownBlock ∧ some k_ ≠ (v309 : Value).ownBlock ∧ ¬ D346_ k_ ∧ D347_ k_ ∧ D348_ k_ ∧ D349_ k_) (.slice Ao28 t300.length co28) t323) ∧ Aside0 (wc.heap[gb286]? = some (.cells #[(.slice A0_0 l0_0.length c0_0), .int .i64 a0_1] 62 (0, 0))) ∧ Aside0 (wc.heap[gb304]? = some (.cells #[(.slice Ao28 t300.length co28), .int .i64 t303] 69 (0, 0))) ∧ Aside0 (Below w.heap.size w wc))
             case first =>
              have H := HC59.out
              clear HC59
              by_cases c64 : t324 < 0
              ·
               rw [if_pos c64] at H
               have c64b0 : decide (t324 < 0) = true := decide_eq_true c64
               clear c64
               (first | rw [c64b0] | (simp only [i64_w, i32_w]; rw [c64b0]) | skip)
               have H' := Aside0.mk H
               clear H
               go_wp2
               go_meet
               case rel => exact ⟨_, (true), (by first | rfl | (simp; done) | (simp [*]; done)), H', ⟨by have := HJ3.out; have := HJ9.out; have := HJ17.out; have := HJ40.out; have := HJ44.out; have := HJ52.out; first | omega | exact Nat.le_refl _⟩, ⟨by (with_reducible repeat (first | apply Kd.R_alloc | apply Kd.R_drewN | apply Kd.R_drew)); exact HO_6.out⟩, ⟨by (with_reducible repeat (first | apply Kd.R_alloc | apply Kd.R_drewN | apply Kd.R_drew)); exact HO_10.out⟩, ⟨by (with_reducible repeat (first | apply Kd.R_alloc | apply Kd.R_drewN | apply Kd.R_drew)); exact HO_305000.out⟩, ⟨by (with_reducible repeat (first | refine blk_drewN ?_ _ | refine blk_drew ?_ | refine blk_alloc ?_ _)); exact BK286.out⟩, ⟨by (with_reducible repeat (first | refine blk_drewN ?_ _ | refine blk_drew ?_ | refine blk_alloc ?_ _)); exact BK304.out⟩, ⟨by repeat (first | (with_reducible first | exact HB.out | apply below_alloc | apply pw_below_drewN | apply below_drew1 | refine below_set ?_ GE286.out | refine below_set ?_ GE304.out) | exact HB.out)⟩⟩
              ·
               rw [if_neg c64] at H
               have c64b0 : decide (t324 < 0) = false := decide_eq_false c64
               clear c64
               (first | rw [c64b0] | (simp only [i64_w, i32_w]; rw [c64b0]) | skip)
               replace H := Option.bind_eq_some_iff.mp H
               obtain ⟨t326, A650, H⟩ := H
               replace H : (if t326 = true then (laws_FnExactTimesWalked.j6 kj52 l1 t296 t299 t308 (t311 != t299) l0_0 a0_1) else (laws_FnExactTimesWalked.j6 kj52 l1 t296 t299 t308 true l0_0 a0_1)) = some r := H
               have A65 := Aside0.mk A650
               clear A650
               by_cases c66 : t326 = true
               ·
                subst c66
                have H1 : (laws_FnExactTimesWalked.j6 kj52 l1 t296 t299 t308 (t311 != t299) l0_0 a0_1) = some r := by rw [if_pos rfl] at H; exact H
                clear H
                have H := H1
                clear H1
                have H' := Aside0.mk H
                clear H
                obtain ⟨Ao67, co67, eo67⟩ := Kd.R_slice HO_10.out
                subst eo67
                obtain ⟨Ao68, co68, eo68⟩ := Kd.R_slice HO_6.out
                subst eo68
                go_wp2_with (first | (go_at_call 65; (with_reducible refine (laws_eqIntS.calls kj52 _ _ t308 _ _ t296 true _ ?side1 ?side2 ?side3 ?side4 A65.out).mono ?_); (case side1 => repeat (first | exact (Kd.R_reads' HO_10.out).2.2 | (with_reducible refine Kd.C_alloc ?_ _) | (with_reducible refine Kd.C_drewN ?_ _) | (with_reducible refine Kd.C_drew ?_))); (case side2 => exact (Kd.R_reads' HO_10.out).2.1); (case side3 => repeat (first | exact (Kd.R_reads' HO_6.out).2.2 | (with_reducible refine Kd.C_alloc ?_ _) | (with_reducible refine Kd.C_drewN ?_ _) | (with_reducible refine Kd.C_drew ?_))); (case side4 => exact (Kd.R_reads' HO_6.out).2.1); rintro e w' ⟨rfl, ⟨nd, rfl⟩⟩))
                go_meet
                case rel => exact ⟨_, ((t311 != t299)), (by first | rfl | (simp; done) | (simp [*]; done)), H', ⟨by have := HJ3.out; have := HJ9.out; have := HJ17.out; have := HJ40.out; have := HJ44.out; have := HJ52.out; first | omega | exact Nat.le_refl _⟩, ⟨by (with_reducible repeat (first | apply Kd.R_alloc | apply Kd.R_drewN | apply Kd.R_drew)); exact HO_6.out⟩, ⟨by (with_reducible repeat (first | apply Kd.R_alloc | apply Kd.R_drewN | apply Kd.R_drew)); exact HO_10.out⟩, ⟨by (with_reducible repeat (first | apply Kd.R_alloc | apply Kd.R_drewN | apply Kd.R_drew)); exact HO_305000.out⟩, ⟨by (with_reducible repeat (first | refine blk_drewN ?_ _ | refine blk_drew ?_ | refine blk_alloc ?_ _)); exact BK286.out⟩, ⟨by (with_reducible repeat (first | refine blk_drewN ?_ _ | refine blk_drew ?_ | refine blk_alloc ?_ _)); exact BK304.out⟩, ⟨by repeat (first | (with_reducible first | exact HB.out | apply below_alloc | apply pw_below_drewN | apply below_drew1 | refine below_set ?_ GE286.out | refine below_set ?_ GE304.out) | exact HB.out)⟩⟩
               ·
                replace c66 := Bool.eq_false_iff.mpr c66
                subst c66
                have H1 : (laws_FnExactTimesWalked.j6 kj52 l1 t296 t299 t308 true l0_0 a0_1) = some r := by rw [if_neg (show ¬ (false = true) by decide)] at H; exact H
                clear H
                have H := H1
                clear H1
                have H' := Aside0.mk H
                clear H
                obtain ⟨Ao69, co69, eo69⟩ := Kd.R_slice HO_10.out
                subst eo69
                obtain ⟨Ao70, co70, eo70⟩ := Kd.R_slice HO_6.out
                subst eo70
                go_wp2_with (first | (go_at_call 65; (with_reducible refine (laws_eqIntS.calls kj52 _ _ t308 _ _ t296 false _ ?side1 ?side2 ?side3 ?side4 A65.out).mono ?_); (case side1 => repeat (first | exact (Kd.R_reads' HO_10.out).2.2 | (with_reducible refine Kd.C_alloc ?_ _) | (with_reducible refine Kd.C_drewN ?_ _) | (with_reducible refine Kd.C_drew ?_))); (case side2 => exact (Kd.R_reads' HO_10.out).2.1); (case side3 => repeat (first | exact (Kd.R_reads' HO_6.out).2.2 | (with_reducible refine Kd.C_alloc ?_ _) | (with_reducible refine Kd.C_drewN ?_ _) | (with_reducible refine Kd.C_drew ?_))); (case side4 => exact (Kd.R_reads' HO_6.out).2.1); rintro e w' ⟨rfl, ⟨nd, rfl⟩⟩))
                go_meet
                case rel => exact ⟨_, (true), (by first | rfl | (simp; done) | (simp [*]; done)), H', ⟨by have := HJ3.out; have := HJ9.out; have := HJ17.out; have := HJ40.out; have := HJ44.out; have := HJ52.out; first | omega | exact Nat.le_refl _⟩, ⟨by (with_reducible repeat (first | apply Kd.R_alloc | apply Kd.R_drewN | apply Kd.R_drew)); exact HO_6.out⟩, ⟨by (with_reducible repeat (first | apply Kd.R_alloc | apply Kd.R_drewN | apply Kd.R_drew)); exact HO_10.out⟩, ⟨by (with_reducible repeat (first | apply Kd.R_alloc | apply Kd.R_drewN | apply Kd.R_drew)); exact HO_305000.out⟩, ⟨by (with_reducible repeat (first | refine blk_drewN ?_ _ | refine blk_drew ?_ | refine blk_alloc ?_ _)); exact BK286.out⟩, ⟨by (with_reducible repeat (first | refine blk_drewN ?_ _ | refine blk_drew ?_ | refine blk_alloc ?_ _)); exact BK304.out⟩, ⟨by repeat (first | (with_reducible first | exact HB.out | apply below_alloc | apply pw_below_drewN | apply below_drew1 | refine below_set ?_ GE286.out | refine below_set ?_ GE304.out) | exact HB.out)⟩⟩
             case rest =>
              clear HC59
              try clear c1
              try clear c2
              try clear p2
              try clear c3
              try clear c4
              try clear c5
              try clear c6
              try clear c8
              try clear c8b0
              try clear c11
              try clear c11b0
              try clear c14
              try clear c24
              try clear c26
              try clear c28
              try clear c29
              try clear c36
              try clear c40
              try clear c42
              try clear c46
              try clear c49
              try clear c50
              try clear c52
              try clear c54
              try clear c56
              try clear c60
              try clear c63
              try clear c64
              try clear c64b0
              try clear c65
              try clear c66
              try clear hcz19_0
              try clear hcz19_1
              try clear hcz25_0
              try clear hcz25_1
              try clear hcz30_0
              try clear hcz30_1
              try clear hcz32_0
              try clear hcz32_1
              try clear hcz61_0
              try clear hcz61_1
              try clear hcz6_0
              try clear hcz6_1
              try clear hfz19_0
              try clear hfz19_1
              try clear hfz25_0
              try clear hfz25_1
              try clear hfz30_0
              try clear hfz30_1
              try clear hfz32_0
              try clear hfz32_1
              try clear hfz61_0
              try clear hfz61_1
              try clear hfz6_0
              try clear hfz6_1
              try clear p2
              obtain ⟨kq, x82_58, rfl, HA, HJ58, HO_6, HO_10, HO_305000, BK286, BK304, HB⟩ := hcut
              have hl305000_58 := (Kd.R_reads' HO_305000.out).1
              rw [hl305000_58] at HO_305000
              (try simp only [hl305000_58])
              (try simp only [hl305000_58] at BK286)
              (try simp only [hl305000_58] at BK304)
              (try simp only [hl305000_58] at HO_6)
              (try simp only [hl305000_58] at HO_10)
              cases kq with
              | zero => exact absurd HA.out (by simp [laws_FnExactTimesWalked.j6])
              | succ kj58 =>
               have H := HA.out
               clear HA
               simp only [laws_FnExactTimesWalked.j6] at H
               have HC71 := Aside0.mk H
               clear H
               go_upto_if 82 with (fail)
               go_cut [] (fun wc => ∃ (kq : Nat), Aside0 (laws_FnExactTimesWalked.j7 kq l1 t296 t299 t308 l0_0 a0_1 = some r) ∧ Aside0 (kq ≤ kj58) ∧ Aside0 (Kd.R (Kd.int .i64) 3 wc w.heap.size (fun k_ => some k_ ≠ (v309 : Value).ownBlock ∧ some k_ ≠ ((.slice Ao28 t323.length co28) : Value).ownBlock ∧ ¬ D345_ k_ ∧ D346_ k_ ∧ D347_ k_ ∧ D348_ k_ ∧ D349_ k_) v297 t296) ∧ Aside0 (Kd.R (Kd.int .i64) 3 wc w.heap.size (fun k_ => some k_ ≠ (v297 : Value).ownBlock ∧ some k_ ≠ ((.slice Ao28 t323.length co28) : Value).ownBlock ∧ ¬ D348_ k_ ∧ D349_ k_) v309 t308) ∧ Aside0 (Kd.R (Kd.int .i64) 3 wc w.heap.size (fun k_ => some k_ ≠ (v297 : Value).ownBlock ∧ some k_ ≠ (v309 : Value).ownBlock ∧ ¬ D346_ k_ ∧ D347_ k_ ∧ D348_ k_ ∧ D349_ k_) (.slice Ao28 t323.length co28) t323) ∧ Aside0 (wc.heap[gb286]? = some (.cells #[(.slice A0_0 l0_0.length c0_0), .int .i64 a0_1] 62 (0, 0))) ∧ Aside0 (wc.heap[gb304]? = some (.cells #[(.slice Ao28 t323.length co28), .int .i64 t303] 69 (0, 0))) ∧ Aside0 (Below w.heap.size w wc))
               case first =>
                have H := HC71.out
                clear HC71
                by_cases c72 : x82_58 = true
                ·
                 subst c72
                 have H1 : (some false) = some r := by rw [if_pos rfl] at H; exact H
                 clear H
                 have H := H1
                 clear H1
                 obtain rfl := Option.some.inj H
                 go_wp2
                 go_ret
                 exact ⟨by first | rfl | (simp [errW_none, errW_some] <;> rfl) | (simp [*, errW_none, errW_some] <;> rfl), by repeat (first | (with_reducible first | exact HB.out | apply below_alloc | apply pw_below_drewN | apply below_drew1 | refine below_set ?_ GE286.out | refine below_set ?_ GE304.out) | exact HB.out)⟩
                ·
                 replace c72 := Bool.eq_false_iff.mpr c72
                 subst c72
                 have H1 : (laws_FnExactTimesWalked.j7 kj58 l1 t296 t299 t308 l0_0 a0_1) = some r := by rw [if_neg (show ¬ (false = true) by decide)] at H; exact H
                 clear H
                 have H := H1
                 clear H1
                 have H' := Aside0.mk H
                 clear H
                 go_wp2
                 go_meet
                 case rel => exact ⟨_, H', ⟨by have := HJ3.out; have := HJ9.out; have := HJ17.out; have := HJ40.out; have := HJ44.out; have := HJ52.out; have := HJ58.out; first | omega | exact Nat.le_refl _⟩, ⟨by (try simp only [hl305000_58]); (with_reducible repeat (first | apply Kd.R_alloc | apply Kd.R_drewN | apply Kd.R_drew)); exact HO_6.out⟩, ⟨by (try simp only [hl305000_58]); (with_reducible repeat (first | apply Kd.R_alloc | apply Kd.R_drewN | apply Kd.R_drew)); exact HO_10.out⟩, ⟨by (try simp only [hl305000_58]); (with_reducible repeat (first | apply Kd.R_alloc | apply Kd.R_drewN | apply Kd.R_drew)); exact HO_305000.out⟩, ⟨by (try simp only [hl305000_58]); (with_reducible repeat (first | refine blk_drewN ?_ _ | refine blk_drew ?_ | refine blk_alloc ?_ _)); exact BK286.out⟩, ⟨by (try simp only [hl305000_58]); (with_reducible repeat (first | refine blk_drewN ?_ _ | refine blk_drew ?_ | refine blk_alloc ?_ _)); exact BK304.out⟩, ⟨by repeat (first | (with_reducible first | exact HB.out | apply below_alloc | apply pw_below_drewN | apply below_drew1 | refine below_set ?_ GE286.out | refine below_set ?_ GE304.out) | exact HB.out)⟩⟩
               case rest =>
                clear HC71
                try clear c1
                try clear c2
                try clear p2
                try clear c3
                try clear c4
                try clear c5
                try clear c6
                try clear c7
                try clear c8
                try clear c8b0
                try clear c11
                try clear c11b0
                try clear c14
                try clear c24
                try clear c26
                try clear c28
                try clear c29
                try clear c36
                try clear c40
                try clear c42
                try clear c46
                try clear c49
                try clear c50
                try clear c52
                try clear c54
                try clear c56
                try clear c60
                try clear c63
                try clear c64
                try clear c64b0
                try clear c65
                try clear c66
                try clear c72
                try clear hcz19_0
                try clear hcz19_1
                try clear hcz25_0
                try clear hcz25_1
                try clear hcz30_0
                try clear hcz30_1
                try clear hcz32_0
                try clear hcz32_1
                try clear hcz61_0
                try clear hcz61_1
                try clear hcz6_0
                try clear hcz6_1
                try clear hfz19_0
                try clear hfz19_1
                try clear hfz25_0
                try clear hfz25_1
                try clear hfz30_0
                try clear hfz30_1
                try clear hfz32_0
                try clear hfz32_1
                try clear hfz61_0
                try clear hfz61_1
                try clear hfz6_0
                try clear hfz6_1
                try clear p2
                obtain ⟨kq, HA, HJ70, HO_6, HO_10, HO_305000, BK286, BK304, HB⟩ := hcut
                cases kq with
                | zero => exact absurd HA.out (by simp [laws_FnExactTimesWalked.j7])
                | succ kj70 =>
                 have H := HA.out
                 clear HA
                 simp only [laws_FnExactTimesWalked.j7] at H
                 replace H := Option.bind_eq_some_iff.mp H
                 obtain ⟨⟨t327, t328⟩, A730, H⟩ := H
                 replace H : ((laws_heldIntS.f kj70 t328 1).bind fun t329 => (if t329 < 0 then (some false) else (laws_FnExactTimesWalked.j8 kj70 l1 t296 t299 t328 t327 t329 l0_0 a0_1))) = some r := H
                 have A73 := Aside0.mk A730
                 clear A730
                 replace H := Option.bind_eq_some_iff.mp H
                 obtain ⟨t329, A740, H⟩ := H
                 replace H : (if t329 < 0 then (some false) else (laws_FnExactTimesWalked.j8 kj70 l1 t296 t299 t328 t327 t329 l0_0 a0_1)) = some r := H
                 have A74 := Aside0.mk A740
                 clear A740
                 have HC75 := Aside0.mk H
                 clear H
                 obtain ⟨Ao76, co76, eo76⟩ := Kd.R_slice HO_10.out
                 subst eo76
                 go_upto_if 90 with (first | ((with_reducible refine gate_callee (f := 66) rfl ?_); refine goesL_ (some 85) rfl rfl Try.func66 (by kernel_rfl) rfl #[.slice Ao76 t308.length co76, .int .i64 1] rfl (by (try simp only [List.map_toArray, List.map_cons, List.map_nil]); first | done | rfl | (simp only [List.length_drop, List.length_take]; rfl)) ?_; (with_reducible refine (laws_markIntS.calls kj70 (fun k_ => some k_ = (.slice Ao76 t308.length co76 : Value).ownBlock) (.slice Ao76 t308.length co76) t308 1 t327 t328 w _ ?side1 ?side2 A73.out).mono ?_); (case side1 => repeat (first | (with_reducible first | exact HB.out | apply below_alloc | apply pw_below_drewN | apply below_drew1 | refine below_set ?_ GE286.out | refine below_set ?_ GE304.out) | exact HB.out)); (case side2 => exact Kd.R_tight rfl HO_10.out); rintro e w77 ⟨rfl, hy0, hb, hkp⟩; refine ⟨_, rfl, ?_⟩; have n0_ := Aside0.mk (Kd.R_mono (ok' := fun k_ => some k_ ≠ (.slice Ao76 t308.length co76 : Value).ownBlock ∧ some k_ ≠ (.slice Ao28 t323.length co28 : Value).ownBlock ∧ ¬ D345_ k_ ∧ D346_ k_ ∧ D347_ k_ ∧ D348_ k_ ∧ D349_ k_) (Kd.R_keptB (HO_6.out) hkp (fun k_ hk_ hs_ => (hk_.1) hs_)) (fun k_ hk_ => ⟨hk_.1.1, hk_.1.2.1, hk_.1.2.2.1, hk_.1.2.2.2.1, hk_.1.2.2.2.2.1, hk_.1.2.2.2.2.2.1, hk_.1.2.2.2.2.2.2⟩)); have n1_ := Aside0.mk (Kd.R_reok rfl hy0 (fun k_ e_ => HO_10.out.1 k_ e_)); have n2_ := Aside0.mk (Kd.R_mono (ok' := fun k_ => some k_ ≠ (v297 : Value).ownBlock ∧ some k_ ≠ (.slice Ao76 t308.length co76 : Value).ownBlock ∧ ¬ D346_ k_ ∧ D347_ k_ ∧ D348_ k_ ∧ D349_ k_) (Kd.R_keptB (HO_305000.out) hkp (fun k_ hk_ hs_ => (hk_.2.1) hs_)) (fun k_ hk_ => ⟨hk_.1.1, hk_.1.2.1, hk_.1.2.2.1, hk_.1.2.2.2.1, hk_.1.2.2.2.2.1, hk_.1.2.2.2.2.2⟩)); have n3_ := Aside0.mk (blk_kept (by (with_reducible repeat (first | refine blk_drewN ?_ _ | refine blk_drew ?_ | refine blk_alloc ?_ _)); exact BK286.out) hkp (fun hs_ => (fun e_ => (Kd.R_ne HO_10.out BK286.out (by decide)) e_) hs_)); have n4_ := Aside0.mk (blk_kept (by (with_reducible repeat (first | refine blk_drewN ?_ _ | refine blk_drew ?_ | refine blk_alloc ?_ _)); exact BK304.out) hkp (fun hs_ => (fun e_ => (Kd.R_ne HO_10.out BK304.out (by decide)) e_) hs_)); have n5_ := Aside0.mk (hb); clear HO_6; clear HO_10; clear HO_305000; clear BK286; clear BK304; clear HB; have HO_6 := n0_; have HO_10 := n1_; have HO_305000 := n2_; have BK286 := n3_; have BK304 := n4_; have HB := n5_; clear n0_ n1_ n2_ n3_ n4_ n5_; (try clear hb); (try clear hkp); (try clear hy0)) | ((with_reducible refine gate_callee (f := 67) rfl ?_); refine goesL_ (some 88) rfl rfl Try.func67 (by kernel_rfl) rfl #[.slice Ao76 t328.length co76, .int .i64 1] rfl (by (try simp only [List.map_toArray, List.map_cons, List.map_nil]); first | done | (rw [show t328.length = t308.length from (Kd.R_reads' HO_10.out).1.symm] <;> rfl) | rfl | (simp only [List.length_drop, List.length_take]; rfl)) ?_; (with_reducible refine (laws_heldIntS.calls kj70 _ _ t328 1 t329 _ ?side1 ?side2 A74.out).mono ?_); (case side1 => repeat (first | exact (Kd.R_reads' HO_10.out).2.2 | (with_reducible refine Kd.C_alloc ?_ _) | (with_reducible refine Kd.C_drewN ?_ _) | (with_reducible refine Kd.C_drew ?_))); (case side2 => rw [show t328.length = t308.length from (Kd.R_reads' HO_10.out).1.symm]; exact (Kd.R_reads' HO_10.out).2.1); rintro e w' ⟨rfl, ⟨nd, rfl⟩⟩; refine ⟨_, rfl, ?_⟩))
                 (try simp only [Act.put, List.setIfInBounds_toArray, List.set_cons_zero, List.set_cons_succ])
                 go_cut [] (fun wc => ∃ (kq : Nat), Aside0 (laws_FnExactTimesWalked.j8 kq l1 t296 t299 t328 t327 t329 l0_0 a0_1 = some r) ∧ Aside0 (kq ≤ kj70) ∧ Aside0 (Kd.R (Kd.int .i64) 3 wc w.heap.size (fun k_ => some k_ ≠ ((.slice Ao76 t308.length co76) : Value).ownBlock ∧ some k_ ≠ ((.slice Ao28 t323.length co28) : Value).ownBlock ∧ ¬ D345_ k_ ∧ D346_ k_ ∧ D347_ k_ ∧ D348_ k_ ∧ D349_ k_) v297 t296) ∧ Aside0 (Kd.R (Kd.int .i64) 3 wc w.heap.size (fun k_ => some k_ ≠ (v297 : Value).ownBlock ∧ some k_ ≠ ((.slice Ao28 t323.length co28) : Value).ownBlock ∧ ¬ D348_ k_ ∧ D349_ k_) (.slice Ao76 t308.length co76) t328) ∧ Aside0 (Kd.R (Kd.int .i64) 3 wc w.heap.size (fun k_ => some k_ ≠ (v297 : Value).ownBlock ∧ some k_ ≠ ((.slice Ao76 t308.length co76) : Value).ownBlock ∧ ¬ D346_ k_ ∧ D347_ k_ ∧ D348_ k_ ∧ D349_ k_) (.slice Ao28 t323.length co28) t323) ∧ Aside0 (wc.heap[gb286]? = some (.cells #[(.slice A0_0 l0_0.length c0_0), .int .i64 a0_1] 62 (0, 0))) ∧ Aside0 (wc.heap[gb304]? = some (.cells #[(.slice Ao28 t323.length co28), .int .i64 t303] 69 (0, 0))) ∧ Aside0 (Below w.heap.size w wc))
                 case first =>
                  have H := HC75.out
                  clear HC75
                  by_cases c78 : t329 < 0
                  ·
                   rw [if_pos c78] at H
                   have c78b0 : decide (t329 < 0) = true := decide_eq_true c78
                   clear c78
                   (first | rw [c78b0] | (simp only [i64_w, i32_w]; rw [c78b0]) | skip)
                   obtain rfl := Option.some.inj H
                   go_wp2
                   go_ret
                   exact ⟨by first | rfl | (simp [errW_none, errW_some] <;> rfl) | (simp [*, errW_none, errW_some] <;> rfl), by repeat (first | (with_reducible first | exact HB.out | apply below_alloc | apply pw_below_drewN | apply below_drew1 | refine below_set ?_ GE286.out | refine below_set ?_ GE304.out) | exact HB.out)⟩
                  ·
                   rw [if_neg c78] at H
                   have c78b0 : decide (t329 < 0) = false := decide_eq_false c78
                   clear c78
                   (first | rw [c78b0] | (simp only [i64_w, i32_w]; rw [c78b0]) | skip)
                   have H' := Aside0.mk H
                   clear H
                   go_wp2
                   go_meet
                   case rel => exact ⟨_, H', ⟨by have := HJ3.out; have := HJ9.out; have := HJ17.out; have := HJ40.out; have := HJ44.out; have := HJ52.out; have := HJ58.out; have := HJ70.out; first | omega | exact Nat.le_refl _⟩, ⟨by (try simp only [hl305000_58]); (with_reducible repeat (first | apply Kd.R_alloc | apply Kd.R_drewN | apply Kd.R_drew)); exact HO_6.out⟩, ⟨by (try simp only [hl305000_58]); (with_reducible repeat (first | apply Kd.R_alloc | apply Kd.R_drewN | apply Kd.R_drew)); exact HO_10.out⟩, ⟨by (try simp only [hl305000_58]); (with_reducible repeat (first | apply Kd.R_alloc | apply Kd.R_drewN | apply Kd.R_drew)); exact HO_305000.out⟩, ⟨by (try simp only [hl305000_58]); (with_reducible repeat (first | refine blk_drewN ?_ _ | refine blk_drew ?_ | refine blk_alloc ?_ _)); exact BK286.out⟩, ⟨by (try simp only [hl305000_58]); (with_reducible repeat (first | refine blk_drewN ?_ _ | refine blk_drew ?_ | refine blk_alloc ?_ _)); exact BK304.out⟩, ⟨by repeat (first | (with_reducible first | exact HB.out | apply below_alloc | apply pw_below_drewN | apply below_drew1 | refine below_set ?_ GE286.out | refine below_set ?_ GE304.out) | exact HB.out)⟩⟩
                 case rest =>
                  clear HC75
                  try clear c1
                  try clear c2
                  try clear p2
                  try clear c3
                  try clear c4
                  try clear c5
                  try clear c6
                  try clear c7
                  try clear c8
                  try clear c8b0
                  try clear c11
                  try clear c11b0
                  try clear c14
                  try clear c24
                  try clear c26
                  try clear c28
                  try clear c29
                  try clear c36
                  try clear c40
                  try clear c42
                  try clear c46
                  try clear c49
                  try clear c50
                  try clear c52
                  try clear c54
                  try clear c56
                  try clear c60
                  try clear c63
                  try clear c64
                  try clear c64b0
                  try clear c65
                  try clear c66
                  try clear c67
                  try clear c72
                  try clear c78
                  try clear c78b0
                  try clear hcz19_0
                  try clear hcz19_1
                  try clear hcz25_0
                  try clear hcz25_1
                  try clear hcz30_0
                  try clear hcz30_1
                  try clear hcz32_0
                  try clear hcz32_1
                  try clear hcz61_0
                  try clear hcz61_1
                  try clear hcz6_0
                  try clear hcz6_1
                  try clear hfz19_0
                  try clear hfz19_1
                  try clear hfz25_0
                  try clear hfz25_1
                  try clear hfz30_0
                  try clear hfz30_1
                  try clear hfz32_0
                  try clear hfz32_1
                  try clear hfz61_0
                  try clear hfz61_1
                  try clear hfz6_0
                  try clear hfz6_1
                  try clear p2
                  obtain ⟨kq, HA, HJ74, HO_6, HO_10, HO_305000, BK286, BK304, HB⟩ := hcut
                  have hl10_74 := (Kd.R_reads' HO_10.out).1
                  rw [hl10_74] at HO_10
                  (try simp only [hl10_74])
                  (try simp only [hl10_74] at BK286)
                  (try simp only [hl10_74] at BK304)
                  (try simp only [hl10_74] at HO_6)
                  (try simp only [hl10_74] at HO_305000)
                  cases kq with
                  | zero => exact absurd HA.out (by simp [laws_FnExactTimesWalked.j8])
                  | succ kj74 =>
                   have H := HA.out
                   clear HA
                   simp only [laws_FnExactTimesWalked.j8] at H
                   have HC79 := Aside0.mk H
                   clear H
                   go_upto_if 93 with (fail)
                   go_cut [] (fun wc => ∃ (kq : Nat), Aside0 (laws_FnExactTimesWalked.j9 kq l1 t296 t299 t328 t327 l0_0 a0_1 = some r) ∧ Aside0 (kq ≤ kj74) ∧ Aside0 (Kd.R (Kd.int .i64) 3 wc w.heap.size (fun k_ => some k_ ≠ ((.slice Ao76 t328.length co76) : Value).ownBlock ∧ some k_ ≠ ((.slice Ao28 t323.length co28) : Value).ownBlock ∧ ¬ D345_ k_ ∧ D346_ k_ ∧ D347_ k_ ∧ D348_ k_ ∧ D349_ k_) v297 t296) ∧ Aside0 (Kd.R (Kd.int .i64) 3 wc w.heap.size (fun k_ => some k_ ≠ (v297 : Value).ownBlock ∧ some k_ ≠ ((.slice Ao28 t323.length co28) : Value).ownBlock ∧ ¬ D348_ k_ ∧ D349_ k_) (.slice Ao76 t328.length co76) t328) ∧ Aside0 (Kd.R (Kd.int .i64) 3 wc w.heap.size (fun k_ => some k_ ≠ (v297 : Value).ownBlock ∧ some k_ ≠ ((.slice Ao76 t328.length co76) : Value).ownBlock ∧ ¬ D346_ k_ ∧ D347_ k_ ∧ D348_ k_ ∧ D349_ k_) (.slice Ao28 t323.length co28) t323) ∧ Aside0 (wc.heap[gb286]? = some (.cells #[(.slice A0_0 l0_0.length c0_0), .int .i64 a0_1] 62 (0, 0))) ∧ Aside0 (wc.heap[gb304]? = some (.cells #[(.slice Ao28 t323.length co28), .int .i64 t303] 69 (0, 0))) ∧ Aside0 (Below w.heap.size w wc))
                   case first =>
                    have H := HC79.out
                    clear HC79
                    by_cases c80 : t329 = t327
                    ·
                     rw [if_pos c80] at H
                     have c80b0 : (t329 == t327) = true := beq_iff_eq.mpr c80
                     have c80b1 : (t329 != t327) = false := bne_eq_false_iff_eq.mpr c80
                     clear c80
                     (first | rw [c80b0] | (simp only [i64_w, i32_w]; rw [c80b0]) | skip)
                     have H' := Aside0.mk H
                     clear H
                     go_wp2
                     go_meet
                     case rel => exact ⟨_, H', ⟨by have := HJ3.out; have := HJ9.out; have := HJ17.out; have := HJ40.out; have := HJ44.out; have := HJ52.out; have := HJ58.out; have := HJ70.out; have := HJ74.out; first | omega | exact Nat.le_refl _⟩, ⟨by (try simp only [hl305000_58]); (try simp only [hl10_74]); (with_reducible repeat (first | apply Kd.R_alloc | apply Kd.R_drewN | apply Kd.R_drew)); exact HO_6.out⟩, ⟨by (try simp only [hl305000_58]); (try simp only [hl10_74]); (with_reducible repeat (first | apply Kd.R_alloc | apply Kd.R_drewN | apply Kd.R_drew)); exact HO_10.out⟩, ⟨by (try simp only [hl305000_58]); (try simp only [hl10_74]); (with_reducible repeat (first | apply Kd.R_alloc | apply Kd.R_drewN | apply Kd.R_drew)); exact HO_305000.out⟩, ⟨by (try simp only [hl305000_58]); (try simp only [hl10_74]); (with_reducible repeat (first | refine blk_drewN ?_ _ | refine blk_drew ?_ | refine blk_alloc ?_ _)); exact BK286.out⟩, ⟨by (try simp only [hl305000_58]); (try simp only [hl10_74]); (with_reducible repeat (first | refine blk_drewN ?_ _ | refine blk_drew ?_ | refine blk_alloc ?_ _)); exact BK304.out⟩, ⟨by repeat (first | (with_reducible first | exact HB.out | apply below_alloc | apply pw_below_drewN | apply below_drew1 | refine below_set ?_ GE286.out | refine below_set ?_ GE304.out) | exact HB.out)⟩⟩
                    ·
                     rw [if_neg c80] at H
                     have c80b0 : (t329 == t327) = false := beq_eq_false_iff_ne.mpr c80
                     have c80b1 : (t329 != t327) = true := bne_iff_ne.mpr c80
                     (first | rw [c80b0] | (simp only [i64_w, i32_w]; rw [c80b0]) | skip)
                     obtain rfl := Option.some.inj H
                     go_wp2
                     go_ret
                     exact ⟨by first | rfl | (simp [errW_none, errW_some] <;> rfl) | (simp [*, errW_none, errW_some] <;> rfl), by repeat (first | (with_reducible first | exact HB.out | apply below_alloc | apply pw_below_drewN | apply below_drew1 | refine below_set ?_ GE286.out | refine below_set ?_ GE304.out) | exact HB.out)⟩
                   case rest =>
                    clear HC79
                    try clear c1
                    try clear c2
                    try clear p2
                    try clear c3
                    try clear c4
                    try clear c5
                    try clear c6
                    try clear c7
                    try clear c8
                    try clear c8b0
                    try clear c11
                    try clear c11b0
                    try clear c14
                    try clear c24
                    try clear c26
                    try clear c28
                    try clear c29
                    try clear c36
                    try clear c40
                    try clear c42
                    try clear c46
                    try clear c49
                    try clear c50
                    try clear c52
                    try clear c54
                    try clear c56
                    try clear c60
                    try clear c63
                    try clear c64
                    try clear c64b0
                    try clear c65
                    try clear c66
                    try clear c67
                    try clear c72
                    try clear c78
                    try clear c78b0
                    try clear c80
                    try clear c80b0
                    try clear c80b1
                    try clear hcz19_0
                    try clear hcz19_1
                    try clear hcz25_0
                    try clear hcz25_1
                    try clear hcz30_0
                    try clear hcz30_1
                    try clear hcz32_0
                    try clear hcz32_1
                    try clear hcz61_0
                    try clear hcz61_1
                    try clear hcz6_0
                    try clear hcz6_1
                    try clear hfz19_0
                    try clear hfz19_1
                    try clear hfz25_0
                    try clear hfz25_1
                    try clear hfz30_0
                    try clear hfz30_1
                    try clear hfz32_0
                    try clear hfz32_1
                    try clear hfz61_0
                    try clear hfz61_1
                    try clear hfz6_0
                    try clear hfz6_1
                    try clear p2
                    obtain ⟨kq, HA, HJ78, HO_6, HO_10, HO_305000, BK286, BK304, HB⟩ := hcut
                    cases kq with
                    | zero => exact absurd HA.out (by simp [laws_FnExactTimesWalked.j9])
                    | succ kj78 =>
                     have H := HA.out
                     clear HA
                     simp only [laws_FnExactTimesWalked.j9] at H
                     replace H := Option.bind_eq_some_iff.mp H
                     obtain ⟨⟨t330, t333⟩, A810, H⟩ := H
                     replace H : ((laws_toIntSS.f kj78 l1).bind fun t334 => ((impl_TimesWalked.f kj78 t330 t333 t334).bind fun bt337 => ((laws_eqIntS.f kj78 bt337.1 t296).bind fun t341 => (if t341 = true then (laws_FnExactTimesWalked.j10 kj78 t328 t327 (bt337.2 != t299)) else (laws_FnExactTimesWalked.j10 kj78 t328 t327 true))))) = some r := H
                     have A81 := Aside0.mk A810
                     clear A810
                     replace H := Option.bind_eq_some_iff.mp H
                     obtain ⟨t334, A820, H⟩ := H
                     replace H : ((impl_TimesWalked.f kj78 t330 t333 t334).bind fun bt337 => ((laws_eqIntS.f kj78 bt337.1 t296).bind fun t341 => (if t341 = true then (laws_FnExactTimesWalked.j10 kj78 t328 t327 (bt337.2 != t299)) else (laws_FnExactTimesWalked.j10 kj78 t328 t327 true)))) = some r := H
                     have A82 := Aside0.mk A820
                     clear A820
                     replace H := Option.bind_eq_some_iff.mp H
                     obtain ⟨⟨t337, t340⟩, A830, H⟩ := H
                     replace H : ((laws_eqIntS.f kj78 t337 t296).bind fun t341 => (if t341 = true then (laws_FnExactTimesWalked.j10 kj78 t328 t327 (t340 != t299)) else (laws_FnExactTimesWalked.j10 kj78 t328 t327 true))) = some r := H
                     have A83 := Aside0.mk A830
                     clear A830
                     have HC84 := Aside0.mk H
                     clear H
                     have hnb85 := NB286_304.out
                     have hnc85 := NB304_286.out
                     have hcz86_0 : wc.cell? ⟨gb286, 0, none⟩ = some (.slice A0_0 l0_0.length c0_0) := (blk_cell BK286.out 0).trans rfl
                     have hcz86_1 : wc.cell? ⟨gb286, 1, none⟩ = some (.int .i64 a0_1) := (blk_cell BK286.out 1).trans rfl
                     have hfz86_0 := blk_frozen BK286.out 0
                     have hfz86_1 := blk_frozen BK286.out 1
                     go_upto_region 32 with (first | ((with_reducible refine gate_callee (f := 49) rfl ?_); refine goesL_ (some 96) rfl rfl Try.func49 (by kernel_rfl) rfl #[.agg #[.slice A0_0 l0_0.length c0_0, .int .i64 a0_1]] rfl (by (try simp only [List.map_toArray, List.map_cons, List.map_nil]); first | done | rfl | (simp only [List.length_drop, List.length_take]; rfl)) ?_; (with_reducible refine (laws_toParty.calls kj78 _ _ l0_0 a0_1 t330 t333 _ ?side1 ?side2 A81.out).mono ?_); (case side1 => repeat (first | exact (Kd.C_below HR0_0.out HB.out) | (with_reducible refine Kd.C_alloc ?_ _) | (with_reducible refine Kd.C_drewN ?_ _) | (with_reducible refine Kd.C_drew ?_))); (case side2 => exact HC0_0.out); rintro e w87 ⟨v331, rfl, ho0, hb⟩; refine ⟨_, rfl, ?_⟩; obtain ⟨D350_, hdl_, hdg_⟩ := dlt_of hb; have D350_lt := Aside0.mk hdl_; have D350_ge := Aside0.mk hdg_; clear hdl_ hdg_; have n0_ := Aside0.mk (Kd.R_elder' (Kd.R_dlt (by (with_reducible repeat (first | apply Kd.R_alloc | apply Kd.R_drewN | apply Kd.R_drew)); exact HO_6.out) D350_lt.out) (Kd.R_base ho0) hb); have n1_ := Aside0.mk (Kd.R_elder' (Kd.R_dlt (by (with_reducible repeat (first | apply Kd.R_alloc | apply Kd.R_drewN | apply Kd.R_drew)); exact HO_10.out) D350_lt.out) (Kd.R_base ho0) hb); have n2_ := Aside0.mk (Kd.R_elder' (Kd.R_dlt (by (with_reducible repeat (first | apply Kd.R_alloc | apply Kd.R_drewN | apply Kd.R_drew)); exact HO_305000.out) D350_lt.out) (Kd.R_base ho0) hb); have n3_ := Aside0.mk (Kd.R_lower (Kd.R_new' (Kd.R_new' (Kd.R_new' (Kd.R_dge ho0 D350_ge.out) (Kd.R_lt (by (with_reducible repeat (first | apply Kd.R_alloc | apply Kd.R_drewN | apply Kd.R_drew)); exact HO_6.out))) (Kd.R_lt (by (with_reducible repeat (first | apply Kd.R_alloc | apply Kd.R_drewN | apply Kd.R_drew)); exact HO_10.out))) (Kd.R_lt (by (with_reducible repeat (first | apply Kd.R_alloc | apply Kd.R_drewN | apply Kd.R_drew)); exact HO_305000.out))) (below_size (by repeat (first | (with_reducible first | exact HB.out | apply below_alloc | apply pw_below_drewN | apply below_drew1 | refine below_set ?_ GE286.out | refine below_set ?_ GE304.out) | exact HB.out)))); have n4_ := Aside0.mk (blk_below (g := gb286) (o := .cells #[.slice A0_0 l0_0.length c0_0, .int .i64 a0_1] 62 (0, 0)) (by (with_reducible repeat (first | refine blk_drewN ?_ _ | refine blk_drew ?_ | refine blk_alloc ?_ _)); exact BK286.out) hb); have n5_ := Aside0.mk (blk_below (g := gb304) (o := .cells #[.slice Ao28 t323.length co28, .int .i64 t303] 69 (0, 0)) (by (with_reducible repeat (first | refine blk_drewN ?_ _ | refine blk_drew ?_ | refine blk_alloc ?_ _)); exact BK304.out) hb); have n6_ := Aside0.mk (below_step (by repeat (first | (with_reducible first | exact HB.out | apply below_alloc | apply pw_below_drewN | apply below_drew1 | refine below_set ?_ GE286.out | refine below_set ?_ GE304.out) | exact HB.out)) hb); clear HO_6; clear HO_10; clear HO_305000; clear BK286; clear BK304; clear HB; have HO_6 := n0_; have HO_10 := n1_; have HO_305000 := n2_; have HO332 := n3_; have BK286 := n4_; have BK304 := n5_; have HB := n6_; clear n0_ n1_ n2_ n3_ n4_ n5_ n6_; (try clear hb); (try clear hb2); (try clear hk); (try clear hi); (try clear ho0)) | ((with_reducible refine gate_callee (f := 26) rfl ?_); refine goesL_ (some 98) rfl rfl Try.func26 (by kernel_rfl) rfl #[.slice A1 l1.length c1] rfl (by (try simp only [List.map_toArray, List.map_cons, List.map_nil]); first | done | rfl | (simp only [List.length_drop, List.length_take]; rfl)) ?_; (with_reducible refine (laws_toIntSS.calls kj78 _ _ l1 t334 _ ?side1 ?side2 A82.out).mono ?_); (case side1 => repeat (first | exact (Kd.C_below HR1.out HB.out) | (with_reducible refine Kd.C_alloc ?_ _) | (with_reducible refine Kd.C_drewN ?_ _) | (with_reducible refine Kd.C_drew ?_))); (case side2 => exact HC1.out); rintro e w88 ⟨v335, rfl, ho0, hb⟩; refine ⟨_, rfl, ?_⟩; obtain ⟨D351_, hdl_, hdg_⟩ := dlt_of hb; have D351_lt := Aside0.mk hdl_; have D351_ge := Aside0.mk hdg_; clear hdl_ hdg_; have n0_ := Aside0.mk (Kd.R_below (Kd.R_dlt (by (with_reducible repeat (first | apply Kd.R_alloc | apply Kd.R_drewN | apply Kd.R_drew)); exact HO_6.out) D351_lt.out) hb); have n1_ := Aside0.mk (Kd.R_below (Kd.R_dlt (by (with_reducible repeat (first | apply Kd.R_alloc | apply Kd.R_drewN | apply Kd.R_drew)); exact HO_10.out) D351_lt.out) hb); have n2_ := Aside0.mk (Kd.R_below (Kd.R_dlt (by (with_reducible repeat (first | apply Kd.R_alloc | apply Kd.R_drewN | apply Kd.R_drew)); exact HO_305000.out) D351_lt.out) hb); have n3_ := Aside0.mk (Kd.R_below (Kd.R_dlt (by (with_reducible repeat (first | apply Kd.R_alloc | apply Kd.R_drewN | apply Kd.R_drew)); exact HO332.out) D351_lt.out) hb); have n4_ := Aside0.mk (Kd.S_lower (Kd.S_new' (Kd.S_new' (Kd.S_new' (Kd.S_new' (Kd.S_dge ho0 D351_ge.out) (Kd.R_lt (by (with_reducible repeat (first | apply Kd.R_alloc | apply Kd.R_drewN | apply Kd.R_drew)); exact HO_6.out))) (Kd.R_lt (by (with_reducible repeat (first | apply Kd.R_alloc | apply Kd.R_drewN | apply Kd.R_drew)); exact HO_10.out))) (Kd.R_lt (by (with_reducible repeat (first | apply Kd.R_alloc | apply Kd.R_drewN | apply Kd.R_drew)); exact HO_305000.out))) (Kd.R_lt (by (with_reducible repeat (first | apply Kd.R_alloc | apply Kd.R_drewN | apply Kd.R_drew)); exact HO332.out))) (below_size (by repeat (first | (with_reducible first | exact HB.out | apply below_alloc | apply pw_below_drewN | apply below_drew1 | refine below_set ?_ GE286.out | refine below_set ?_ GE304.out) | exact HB.out)))); have n5_ := Aside0.mk (blk_below (g := gb286) (o := .cells #[.slice A0_0 l0_0.length c0_0, .int .i64 a0_1] 62 (0, 0)) (by (with_reducible repeat (first | refine blk_drewN ?_ _ | refine blk_drew ?_ | refine blk_alloc ?_ _)); exact BK286.out) hb); have n6_ := Aside0.mk (blk_below (g := gb304) (o := .cells #[.slice Ao28 t323.length co28, .int .i64 t303] 69 (0, 0)) (by (with_reducible repeat (first | refine blk_drewN ?_ _ | refine blk_drew ?_ | refine blk_alloc ?_ _)); exact BK304.out) hb); have n7_ := Aside0.mk (below_step (by repeat (first | (with_reducible first | exact HB.out | apply below_alloc | apply pw_below_drewN | apply below_drew1 | refine below_set ?_ GE286.out | refine below_set ?_ GE304.out) | exact HB.out)) hb); clear HO_6; clear HO_10; clear HO_305000; clear HO332; clear BK286; clear BK304; clear HB; have HO_6 := n0_; have HO_10 := n1_; have HO_305000 := n2_; have HO332 := n3_; have HO336 := n4_; have BK286 := n5_; have BK304 := n6_; have HB := n7_; clear n0_ n1_ n2_ n3_ n4_ n5_ n6_ n7_; (try clear hb); (try clear hb2); (try clear hk); (try clear hi); (try clear ho0); obtain ⟨Ao89, co89, eo89⟩ := Kd.R_slice HO332.out; subst eo89; obtain ⟨Ao90, co90, eo90⟩ := Kd.S_slice HO336.out; subst eo90) | ((with_reducible refine gate_callee (f := 64) rfl ?_); refine goesL_ (some 99) rfl rfl Try.func64 (by kernel_rfl) rfl #[.agg #[.slice Ao89 t330.length co89, .int .i64 t333], .slice Ao90 t334.length co90] rfl (by (try simp only [List.map_toArray, List.map_cons, List.map_nil]); first | done | rfl | (simp only [List.length_drop, List.length_take]; rfl)) ?_; (with_reducible refine (impl_TimesWalked.calls kj78 _ _ t330 t333 _ _ t334 t337 t340 _ ?side1 ?side2 ?side3 ?side4 A83.out).mono ?_); (case side1 => repeat (first | exact (Kd.R_reads' HO332.out).2.2 | (with_reducible refine Kd.C_alloc ?_ _) | (with_reducible refine Kd.C_drewN ?_ _) | (with_reducible refine Kd.C_drew ?_))); (case side2 => exact (Kd.R_reads' HO332.out).2.1); (case side3 => repeat (first | exact (Kd.S_reads' HO336.out).2.2 | (with_reducible refine Kd.C_alloc ?_ _) | (with_reducible refine Kd.C_drewN ?_ _) | (with_reducible refine Kd.C_drew ?_))); (case side4 => exact (Kd.S_reads' HO336.out).2.1); rintro e w91 ⟨v338, rfl, ho0, hb⟩; refine ⟨_, rfl, ?_⟩; obtain ⟨D352_, hdl_, hdg_⟩ := dlt_of hb; have D352_lt := Aside0.mk hdl_; have D352_ge := Aside0.mk hdg_; clear hdl_ hdg_; have n0_ := Aside0.mk (Kd.R_elder' (Kd.R_dlt (by (with_reducible repeat (first | apply Kd.R_alloc | apply Kd.R_drewN | apply Kd.R_drew)); exact HO_6.out) D352_lt.out) (Kd.R_base ho0) hb); have n1_ := Aside0.mk (Kd.R_elder' (Kd.R_dlt (by (with_reducible repeat (first | apply Kd.R_alloc | apply Kd.R_drewN | apply Kd.R_drew)); exact HO_10.out) D352_lt.out) (Kd.R_base ho0) hb); have n2_ := Aside0.mk (Kd.R_elder' (Kd.R_dlt (by (with_reducible repeat (first | apply Kd.R_alloc | apply Kd.R_drewN | apply Kd.R_drew)); exact HO_305000.out) D352_lt.out) (Kd.R_base ho0) hb); have n3_ := Aside0.mk (Kd.R_elder' (Kd.R_dlt (by (with_reducible repeat (first | apply Kd.R_alloc | apply Kd.R_drewN | apply Kd.R_drew)); exact HO332.out) D352_lt.out) (Kd.R_base ho0) hb); have n4_ := Aside0.mk (Kd.S_elder' (Kd.S_dlt (by (with_reducible repeat (first | apply Kd.S_alloc | apply Kd.S_drewN | apply Kd.S_drew)); exact HO336.out) D352_lt.out) (Kd.R_base ho0) hb); have n5_ := Aside0.mk (Kd.R_lower (Kd.R_new' (Kd.R_new' (Kd.R_new' (Kd.R_new' (Kd.R_dge ho0 D352_ge.out) (Kd.R_lt (by (with_reducible repeat (first | apply Kd.R_alloc | apply Kd.R_drewN | apply Kd.R_drew)); exact HO_6.out))) (Kd.R_lt (by (with_reducible repeat (first | apply Kd.R_alloc | apply Kd.R_drewN | apply Kd.R_drew)); exact HO_10.out))) (Kd.R_lt (by (with_reducible repeat (first | apply Kd.R_alloc | apply Kd.R_drewN | apply Kd.R_drew)); exact HO_305000.out))) (Kd.R_lt (by (with_reducible repeat (first | apply Kd.R_alloc | apply Kd.R_drewN | apply Kd.R_drew)); exact HO332.out))) (below_size (by repeat (first | (with_reducible first | exact HB.out | apply below_alloc | apply pw_below_drewN | apply below_drew1 | refine below_set ?_ GE286.out | refine below_set ?_ GE304.out) | exact HB.out)))); have n6_ := Aside0.mk (blk_below (g := gb286) (o := .cells #[.slice A0_0 l0_0.length c0_0, .int .i64 a0_1] 62 (0, 0)) (by (with_reducible repeat (first | refine blk_drewN ?_ _ | refine blk_drew ?_ | refine blk_alloc ?_ _)); exact BK286.out) hb); have n7_ := Aside0.mk (blk_below (g := gb304) (o := .cells #[.slice Ao28 t323.length co28, .int .i64 t303] 69 (0, 0)) (by (with_reducible repeat (first | refine blk_drewN ?_ _ | refine blk_drew ?_ | refine blk_alloc ?_ _)); exact BK304.out) hb); have n8_ := Aside0.mk (below_step (by repeat (first | (with_reducible first | exact HB.out | apply below_alloc | apply pw_below_drewN | apply below_drew1 | refine below_set ?_ GE286.out | refine below_set ?_ GE304.out) | exact HB.out)) hb); clear HO_6; clear HO_10; clear HO_305000; clear HO332; clear HO336; clear BK286; clear BK304; clear HB; have HO_6 := n0_; have HO_10 := n1_; have HO_305000 := n2_; have HO332 := n3_; have HO336 := n4_; have HO339 := n5_; have BK286 := n6_; have BK304 := n7_; have HB := n8_; clear n0_ n1_ n2_ n3_ n4_ n5_ n6_ n7_ n8_; (try clear hb); (try clear hb2); (try clear hk); (try clear hi); (try clear ho0)))
                     (try simp only [Act.put, List.setIfInBounds_toArray, List.set_cons_zero, List.set_cons_succ])
                     go_cut [110] (fun v110 wc => ∃ (kq : Nat) (x110_83 : Bool), v110 = .bool x110_83 ∧ Aside0 (laws_FnExactTimesWalked.j10 kq t328 t327 x110_83 = some r) ∧ Aside0 (kq ≤ kj78) ∧ Aside0 (Kd.R (Kd.int .i64) 3 wc w.heap.size (fun k_ => some k_ ≠ ((.slice Ao28 t323.length co28) : Value).ownBlock ∧ ¬ D348_ k_ ∧ D349_ k_ ∧ D350_ k_ ∧ D351_ k_ ∧ D352_ k_) (.slice Ao76 t328.length co76) t328) ∧ Aside0 (Kd.R (Kd.int .i64) 3 wc w.heap.size (fun k_ => some k_ ≠ ((.slice Ao76 t328.length co76) : Value).ownBlock ∧ ¬ D346_ k_ ∧ D347_ k_ ∧ D348_ k_ ∧ D349_ k_ ∧ D350_ k_ ∧ D351_ k_ ∧ D352_ k_) (.slice Ao28 t323.length co28) t323) ∧ Aside0 (wc.heap[gb286]? = some (.cells #[(.slice A0_0 l0_0.length c0_0), .int .i64 a0_1] 62 (0, 0))) ∧ Aside0 (wc.heap[gb304]? = some (.cells #[(.slice Ao28 t323.length co28), .int .i64 t303] 69 (0, 0))) ∧ Aside0 (Below w.heap.size w wc))
                     case first =>
                      have H := HC84.out
                      clear HC84
                      replace H := Option.bind_eq_some_iff.mp H
                      obtain ⟨t341, A920, H⟩ := H
                      replace H : (if t341 = true then (laws_FnExactTimesWalked.j10 kj78 t328 t327 (t340 != t299)) else (laws_FnExactTimesWalked.j10 kj78 t328 t327 true)) = some r := H
                      have A92 := Aside0.mk A920
                      clear A920
                      by_cases c93 : t341 = true
                      ·
                       subst c93
                       have H1 : (laws_FnExactTimesWalked.j10 kj78 t328 t327 (t340 != t299)) = some r := by rw [if_pos rfl] at H; exact H
                       clear H
                       have H := H1
                       clear H1
                       have H' := Aside0.mk H
                       clear H
                       obtain ⟨Ao94, co94, eo94⟩ := Kd.R_slice HO339.out
                       subst eo94
                       obtain ⟨Ao95, co95, eo95⟩ := Kd.R_slice HO_6.out
                       subst eo95
                       go_wp2_with (first | ((with_reducible refine gate_callee (f := 65) rfl ?_); refine goesL_ (some 104) rfl rfl Try.func65 (by kernel_rfl) rfl #[.slice Ao94 t337.length co94, .slice Ao95 t296.length co95] rfl (by (try simp only [List.map_toArray, List.map_cons, List.map_nil]); first | done | rfl | (simp only [List.length_drop, List.length_take]; rfl)) ?_; (with_reducible refine (laws_eqIntS.calls kj78 _ _ t337 _ _ t296 true _ ?side1 ?side2 ?side3 ?side4 A92.out).mono ?_); (case side1 => repeat (first | exact (Kd.R_reads' HO339.out).2.2 | (with_reducible refine Kd.C_alloc ?_ _) | (with_reducible refine Kd.C_drewN ?_ _) | (with_reducible refine Kd.C_drew ?_))); (case side2 => exact (Kd.R_reads' HO339.out).2.1); (case side3 => repeat (first | exact (Kd.R_reads' HO_6.out).2.2 | (with_reducible refine Kd.C_alloc ?_ _) | (with_reducible refine Kd.C_drewN ?_ _) | (with_reducible refine Kd.C_drew ?_))); (case side4 => exact (Kd.R_reads' HO_6.out).2.1); rintro e w' ⟨rfl, ⟨nd, rfl⟩⟩; refine ⟨_, rfl, ?_⟩))
                       go_meet
                       case rel => exact ⟨_, ((t340 != t299)), (by first | rfl | (simp; done) | (simp [*]; done)), H', ⟨by have := HJ3.out; have := HJ9.out; have := HJ17.out; have := HJ40.out; have := HJ44.out; have := HJ52.out; have := HJ58.out; have := HJ70.out; have := HJ74.out; have := HJ78.out; first | omega | exact Nat.le_refl _⟩, ⟨by (try simp only [hl305000_58]); (try simp only [hl10_74]); (with_reducible repeat (first | apply Kd.R_alloc | apply Kd.R_drewN | apply Kd.R_drew)); exact Kd.R_mono HO_10.out (fun _ hk => ⟨hk.1.1.1.1.1.2.1, ⟨hk.1.1.1.1.1.2.2.1, ⟨hk.1.1.1.1.1.2.2.2, ⟨hk.1.1.1.1.2, ⟨hk.1.1.2, hk.1.2⟩⟩⟩⟩⟩)⟩, ⟨by (try simp only [hl305000_58]); (try simp only [hl10_74]); (with_reducible repeat (first | apply Kd.R_alloc | apply Kd.R_drewN | apply Kd.R_drew)); exact Kd.R_mono HO_305000.out (fun _ hk => ⟨hk.1.1.1.1.1.2.1, ⟨hk.1.1.1.1.1.2.2.1, ⟨hk.1.1.1.1.1.2.2.2.1, ⟨hk.1.1.1.1.1.2.2.2.2.1, ⟨hk.1.1.1.1.1.2.2.2.2.2, ⟨hk.1.1.1.1.2, ⟨hk.1.1.2, hk.1.2⟩⟩⟩⟩⟩⟩⟩)⟩, ⟨by (try simp only [hl305000_58]); (try simp only [hl10_74]); (with_reducible repeat (first | refine blk_drewN ?_ _ | refine blk_drew ?_ | refine blk_alloc ?_ _)); exact BK286.out⟩, ⟨by (try simp only [hl305000_58]); (try simp only [hl10_74]); (with_reducible repeat (first | refine blk_drewN ?_ _ | refine blk_drew ?_ | refine blk_alloc ?_ _)); exact BK304.out⟩, ⟨by repeat (first | (with_reducible first | exact HB.out | apply below_alloc | apply pw_below_drewN | apply below_drew1 | refine below_set ?_ GE286.out | refine below_set ?_ GE304.out) | exact HB.out)⟩⟩
                      ·
                       replace c93 := Bool.eq_false_iff.mpr c93
                       subst c93
                       have H1 : (laws_FnExactTimesWalked.j10 kj78 t328 t327 true) = some r := by rw [if_neg (show ¬ (false = true) by decide)] at H; exact H
                       clear H
                       have H := H1
                       clear H1
                       have H' := Aside0.mk H
                       clear H
                       obtain ⟨Ao96, co96, eo96⟩ := Kd.R_slice HO339.out
                       subst eo96
                       obtain ⟨Ao97, co97, eo97⟩ := Kd.R_slice HO_6.out
                       subst eo97
                       go_wp2_with (first | ((with_reducible refine gate_callee (f := 65) rfl ?_); refine goesL_ (some 104) rfl rfl Try.func65 (by kernel_rfl) rfl #[.slice Ao96 t337.length co96, .slice Ao97 t296.length co97] rfl (by (try simp only [List.map_toArray, List.map_cons, List.map_nil]); first | done | rfl | (simp only [List.length_drop, List.length_take]; rfl)) ?_; (with_reducible refine (laws_eqIntS.calls kj78 _ _ t337 _ _ t296 false _ ?side1 ?side2 ?side3 ?side4 A92.out).mono ?_); (case side1 => repeat (first | exact (Kd.R_reads' HO339.out).2.2 | (with_reducible refine Kd.C_alloc ?_ _) | (with_reducible refine Kd.C_drewN ?_ _) | (with_reducible refine Kd.C_drew ?_))); (case side2 => exact (Kd.R_reads' HO339.out).2.1); (case side3 => repeat (first | exact (Kd.R_reads' HO_6.out).2.2 | (with_reducible refine Kd.C_alloc ?_ _) | (with_reducible refine Kd.C_drewN ?_ _) | (with_reducible refine Kd.C_drew ?_))); (case side4 => exact (Kd.R_reads' HO_6.out).2.1); rintro e w' ⟨rfl, ⟨nd, rfl⟩⟩; refine ⟨_, rfl, ?_⟩))
                       go_meet
                       case rel => exact ⟨_, (true), (by first | rfl | (simp; done) | (simp [*]; done)), H', ⟨by have := HJ3.out; have := HJ9.out; have := HJ17.out; have := HJ40.out; have := HJ44.out; have := HJ52.out; have := HJ58.out; have := HJ70.out; have := HJ74.out; have := HJ78.out; first | omega | exact Nat.le_refl _⟩, ⟨by (try simp only [hl305000_58]); (try simp only [hl10_74]); (with_reducible repeat (first | apply Kd.R_alloc | apply Kd.R_drewN | apply Kd.R_drew)); exact Kd.R_mono HO_10.out (fun _ hk => ⟨hk.1.1.1.1.1.2.1, ⟨hk.1.1.1.1.1.2.2.1, ⟨hk.1.1.1.1.1.2.2.2, ⟨hk.1.1.1.1.2, ⟨hk.1.1.2, hk.1.2⟩⟩⟩⟩⟩)⟩, ⟨by (try simp only [hl305000_58]); (try simp only [hl10_74]); (with_reducible repeat (first | apply Kd.R_alloc | apply Kd.R_drewN | apply Kd.R_drew)); exact Kd.R_mono HO_305000.out (fun _ hk => ⟨hk.1.1.1.1.1.2.1, ⟨hk.1.1.1.1.1.2.2.1, ⟨hk.1.1.1.1.1.2.2.2.1, ⟨hk.1.1.1.1.1.2.2.2.2.1, ⟨hk.1.1.1.1.1.2.2.2.2.2, ⟨hk.1.1.1.1.2, ⟨hk.1.1.2, hk.1.2⟩⟩⟩⟩⟩⟩⟩)⟩, ⟨by (try simp only [hl305000_58]); (try simp only [hl10_74]); (with_reducible repeat (first | refine blk_drewN ?_ _ | refine blk_drew ?_ | refine blk_alloc ?_ _)); exact BK286.out⟩, ⟨by (try simp only [hl305000_58]); (try simp only [hl10_74]); (with_reducible repeat (first | refine blk_drewN ?_ _ | refine blk_drew ?_ | refine blk_alloc ?_ _)); exact BK304.out⟩, ⟨by repeat (first | (with_reducible first | exact HB.out | apply below_alloc | apply pw_below_drewN | apply below_drew1 | refine below_set ?_ GE286.out | refine below_set ?_ GE304.out) | exact HB.out)⟩⟩
                     case rest =>
                      clear HC84
                      try clear c1
                      try clear c2
                      try clear p2
                      try clear c3
                      try clear c4
                      try clear c5
                      try clear c6
                      try clear c7
                      try clear c8
                      try clear c8b0
                      try clear c9
                      try clear c11
                      try clear c11b0
                      try clear c14
                      try clear c24
                      try clear c26
                      try clear c28
                      try clear c29
                      try clear c36
                      try clear c40
                      try clear c42
                      try clear c46
                      try clear c49
                      try clear c50
                      try clear c52
                      try clear c54
                      try clear c56
                      try clear c60
                      try clear c63
                      try clear c64
                      try clear c64b0
                      try clear c65
                      try clear c66
                      try clear c67
                      try clear c72
                      try clear c78
                      try clear c78b0
                      try clear c80
                      try clear c80b0
                      try clear c80b1
                      try clear c85
                      try clear c93
                      try clear hcz19_0
                      try clear hcz19_1
                      try clear hcz25_0
                      try clear hcz25_1
                      try clear hcz30_0
                      try clear hcz30_1
                      try clear hcz32_0
                      try clear hcz32_1
                      try clear hcz61_0
                      try clear hcz61_1
                      try clear hcz6_0
                      try clear hcz6_1
                      try clear hcz86_0
                      try clear hcz86_1
                      try clear hfz19_0
                      try clear hfz19_1
                      try clear hfz25_0
                      try clear hfz25_1
                      try clear hfz30_0
                      try clear hfz30_1
                      try clear hfz32_0
                      try clear hfz32_1
                      try clear hfz61_0
                      try clear hfz61_1
                      try clear hfz6_0
                      try clear hfz6_1
                      try clear hfz86_0
                      try clear hfz86_1
                      try clear p2
                      obtain ⟨kq, x110_83, rfl, HA, HJ83, HO_10, HO_305000, BK286, BK304, HB⟩ := hcut
                      cases kq with
                      | zero => exact absurd HA.out (by simp [laws_FnExactTimesWalked.j10])
                      | succ kj83 =>
                       have H := HA.out
                       clear HA
                       simp only [laws_FnExactTimesWalked.j10] at H
                       have HC98 := Aside0.mk H
                       clear H
                       go_upto_if 110 with (fail)
                       go_cut [] (fun wc => ∃ (kq : Nat), Aside0 (laws_FnExactTimesWalked.j11 kq t328 t327 = some r) ∧ Aside0 (kq ≤ kj83) ∧ Aside0 (Kd.R (Kd.int .i64) 3 wc w.heap.size (fun k_ => some k_ ≠ ((.slice Ao28 t323.length co28) : Value).ownBlock ∧ ¬ D348_ k_ ∧ D349_ k_ ∧ D350_ k_ ∧ D351_ k_ ∧ D352_ k_) (.slice Ao76 t328.length co76) t328) ∧ Aside0 (Kd.R (Kd.int .i64) 3 wc w.heap.size (fun k_ => some k_ ≠ ((.slice Ao76 t328.length co76) : Value).ownBlock ∧ ¬ D346_ k_ ∧ D347_ k_ ∧ D348_ k_ ∧ D349_ k_ ∧ D350_ k_ ∧ D351_ k_ ∧ D352_ k_) (.slice Ao28 t323.length co28) t323) ∧ Aside0 (wc.heap[gb286]? = some (.cells #[(.slice A0_0 l0_0.length c0_0), .int .i64 a0_1] 62 (0, 0))) ∧ Aside0 (wc.heap[gb304]? = some (.cells #[(.slice Ao28 t323.length co28), .int .i64 t303] 69 (0, 0))) ∧ Aside0 (Below w.heap.size w wc))
                       case first =>
                        have H := HC98.out
                        clear HC98
                        by_cases c99 : x110_83 = true
                        ·
                         subst c99
                         have H1 : (some false) = some r := by rw [if_pos rfl] at H; exact H
                         clear H
                         have H := H1
                         clear H1
                         obtain rfl := Option.some.inj H
                         go_wp2
                         go_ret
                         exact ⟨by first | rfl | (simp [errW_none, errW_some] <;> rfl) | (simp [*, errW_none, errW_some] <;> rfl), by repeat (first | (with_reducible first | exact HB.out | apply below_alloc | apply pw_below_drewN | apply below_drew1 | refine below_set ?_ GE286.out | refine below_set ?_ GE304.out) | exact HB.out)⟩
                        ·
                         replace c99 := Bool.eq_false_iff.mpr c99
                         subst c99
                         have H1 : (laws_FnExactTimesWalked.j11 kj83 t328 t327) = some r := by rw [if_neg (show ¬ (false = true) by decide)] at H; exact H
                         clear H
                         have H := H1
                         clear H1
                         have H' := Aside0.mk H
                         clear H
                         go_wp2
                         go_meet
                         case rel => exact ⟨_, H', ⟨by have := HJ3.out; have := HJ9.out; have := HJ17.out; have := HJ40.out; have := HJ44.out; have := HJ52.out; have := HJ58.out; have := HJ70.out; have := HJ74.out; have := HJ78.out; have := HJ83.out; first | omega | exact Nat.le_refl _⟩, ⟨by (try simp only [hl305000_58]); (try simp only [hl10_74]); (with_reducible repeat (first | apply Kd.R_alloc | apply Kd.R_drewN | apply Kd.R_drew)); exact HO_10.out⟩, ⟨by (try simp only [hl305000_58]); (try simp only [hl10_74]); (with_reducible repeat (first | apply Kd.R_alloc | apply Kd.R_drewN | apply Kd.R_drew)); exact HO_305000.out⟩, ⟨by (try simp only [hl305000_58]); (try simp only [hl10_74]); (with_reducible repeat (first | refine blk_drewN ?_ _ | refine blk_drew ?_ | refine blk_alloc ?_ _)); exact BK286.out⟩, ⟨by (try simp only [hl305000_58]); (try simp only [hl10_74]); (with_reducible repeat (first | refine blk_drewN ?_ _ | refine blk_drew ?_ | refine blk_alloc ?_ _)); exact BK304.out⟩, ⟨by repeat (first | (with_reducible first | exact HB.out | apply below_alloc | apply pw_below_drewN | apply below_drew1 | refine below_set ?_ GE286.out | refine below_set ?_ GE304.out) | exact HB.out)⟩⟩
                       case rest =>
                        clear HC98
                        try clear c1
                        try clear c2
                        try clear p2
                        try clear c3
                        try clear c4
                        try clear c5
                        try clear c6
                        try clear c7
                        try clear c8
                        try clear c8b0
                        try clear c9
                        try clear c11
                        try clear c11b0
                        try clear c14
                        try clear c24
                        try clear c26
                        try clear c28
                        try clear c29
                        try clear c36
                        try clear c40
                        try clear c42
                        try clear c46
                        try clear c49
                        try clear c50
                        try clear c52
                        try clear c54
                        try clear c56
                        try clear c60
                        try clear c63
                        try clear c64
                        try clear c64b0
                        try clear c65
                        try clear c66
                        try clear c67
                        try clear c72
                        try clear c78
                        try clear c78b0
                        try clear c80
                        try clear c80b0
                        try clear c80b1
                        try clear c85
                        try clear c93
                        try clear c99
                        try clear hcz19_0
                        try clear hcz19_1
                        try clear hcz25_0
                        try clear hcz25_1
                        try clear hcz30_0
                        try clear hcz30_1
                        try clear hcz32_0
                        try clear hcz32_1
                        try clear hcz61_0
                        try clear hcz61_1
                        try clear hcz6_0
                        try clear hcz6_1
                        try clear hcz86_0
                        try clear hcz86_1
                        try clear hfz19_0
                        try clear hfz19_1
                        try clear hfz25_0
                        try clear hfz25_1
                        try clear hfz30_0
                        try clear hfz30_1
                        try clear hfz32_0
                        try clear hfz32_1
                        try clear hfz61_0
                        try clear hfz61_1
                        try clear hfz6_0
                        try clear hfz6_1
                        try clear hfz86_0
                        try clear hfz86_1
                        try clear p2
                        obtain ⟨kq, HA, HJ97, HO_10, HO_305000, BK286, BK304, HB⟩ := hcut
                        cases kq with
                        | zero => exact absurd HA.out (by simp [laws_FnExactTimesWalked.j11])
                        | succ kj97 =>
                         have H := HA.out
                         clear HA
                         simp only [laws_FnExactTimesWalked.j11] at H
                         replace H := Option.bind_eq_some_iff.mp H
                         obtain ⟨t342, A1000, H⟩ := H
                         replace H : (if t342 < 0 then (some false) else (if t342 = t327 then (some true) else (some false))) = some r := H
                         have A100 := Aside0.mk A1000
                         clear A1000
                         by_cases c101 : t342 < 0
                         ·
                          rw [if_pos c101] at H
                          have c101b0 : decide (t342 < 0) = true := decide_eq_true c101
                          clear c101
                          obtain rfl := Option.some.inj H
                          go_wp2_with (first | ((with_reducible refine gate_callee (f := 67) rfl ?_); refine goesL_ (some 113) rfl rfl Try.func67 (by kernel_rfl) rfl #[.slice Ao76 t328.length co76, .int .i64 1] rfl (by (try simp only [List.map_toArray, List.map_cons, List.map_nil]); first | done | rfl | (simp only [List.length_drop, List.length_take]; rfl)) ?_; (with_reducible refine (laws_heldIntS.calls kj97 _ _ t328 1 t342 _ ?side1 ?side2 A100.out).mono ?_); (case side1 => repeat (first | exact (Kd.R_reads' HO_10.out).2.2 | (with_reducible refine Kd.C_alloc ?_ _) | (with_reducible refine Kd.C_drewN ?_ _) | (with_reducible refine Kd.C_drew ?_))); (case side2 => exact (Kd.R_reads' HO_10.out).2.1); rintro e w' ⟨rfl, ⟨nd, rfl⟩⟩; refine ⟨_, rfl, ?_⟩))
                          go_ret
                          exact ⟨by first | rfl | (simp [errW_none, errW_some] <;> rfl) | (simp [*, errW_none, errW_some] <;> rfl), by repeat (first | (with_reducible first | exact HB.out | apply below_alloc | apply pw_below_drewN | apply below_drew1 | refine below_set ?_ GE286.out | refine below_set ?_ GE304.out) | exact HB.out)⟩
                         ·
                          rw [if_neg c101] at H
                          have c101b0 : decide (t342 < 0) = false := decide_eq_false c101
                          clear c101
                          by_cases c102 : t342 = t327
                          ·
                           rw [if_pos c102] at H
                           have c102b0 : (t342 == t327) = true := beq_iff_eq.mpr c102
                           have c102b1 : (t342 != t327) = false := bne_eq_false_iff_eq.mpr c102
                           clear c102
                           obtain rfl := Option.some.inj H
                           go_wp2_with (first | ((with_reducible refine gate_callee (f := 67) rfl ?_); refine goesL_ (some 113) rfl rfl Try.func67 (by kernel_rfl) rfl #[.slice Ao76 t328.length co76, .int .i64 1] rfl (by (try simp only [List.map_toArray, List.map_cons, List.map_nil]); first | done | rfl | (simp only [List.length_drop, List.length_take]; rfl)) ?_; (with_reducible refine (laws_heldIntS.calls kj97 _ _ t328 1 t342 _ ?side1 ?side2 A100.out).mono ?_); (case side1 => repeat (first | exact (Kd.R_reads' HO_10.out).2.2 | (with_reducible refine Kd.C_alloc ?_ _) | (with_reducible refine Kd.C_drewN ?_ _) | (with_reducible refine Kd.C_drew ?_))); (case side2 => exact (Kd.R_reads' HO_10.out).2.1); rintro e w' ⟨rfl, ⟨nd, rfl⟩⟩; refine ⟨_, rfl, ?_⟩))
                           go_ret
                           exact ⟨by first | rfl | (simp [errW_none, errW_some] <;> rfl) | (simp [*, errW_none, errW_some] <;> rfl), by repeat (first | (with_reducible first | exact HB.out | apply below_alloc | apply pw_below_drewN | apply below_drew1 | refine below_set ?_ GE286.out | refine below_set ?_ GE304.out) | exact HB.out)⟩
                          ·
                           rw [if_neg c102] at H
                           have c102b0 : (t342 == t327) = false := beq_eq_false_iff_ne.mpr c102
                           have c102b1 : (t342 != t327) = true := bne_iff_ne.mpr c102
                           obtain rfl := Option.some.inj H
                           go_wp2_with (first | ((with_reducible refine gate_callee (f := 67) rfl ?_); refine goesL_ (some 113) rfl rfl Try.func67 (by kernel_rfl) rfl #[.slice Ao76 t328.length co76, .int .i64 1] rfl (by (try simp only [List.map_toArray, List.map_cons, List.map_nil]); first | done | rfl | (simp only [List.length_drop, List.length_take]; rfl)) ?_; (with_reducible refine (laws_heldIntS.calls kj97 _ _ t328 1 t342 _ ?side1 ?side2 A100.out).mono ?_); (case side1 => repeat (first | exact (Kd.R_reads' HO_10.out).2.2 | (with_reducible refine Kd.C_alloc ?_ _) | (with_reducible refine Kd.C_drewN ?_ _) | (with_reducible refine Kd.C_drew ?_))); (case side2 => exact (Kd.R_reads' HO_10.out).2.1); rintro e w' ⟨rfl, ⟨nd, rfl⟩⟩; refine ⟨_, rfl, ?_⟩))
                           go_ret
                           exact ⟨by first | rfl | (simp [errW_none, errW_some] <;> rfl) | (simp [*, errW_none, errW_some] <;> rfl), by repeat (first | (with_reducible first | exact HB.out | apply below_alloc | apply pw_below_drewN | apply below_drew1 | refine below_set ?_ GE286.out | refine below_set ?_ GE304.out) | exact HB.out)⟩
end Go.Proofs.Ytpobeakggacdpaa.C2
