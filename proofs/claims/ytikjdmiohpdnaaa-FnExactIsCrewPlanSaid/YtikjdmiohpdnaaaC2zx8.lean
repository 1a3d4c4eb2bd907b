import Derived.Test.YtikjdmiohpdnaaaC2zx0
import Derived.Test.YtikjdmiohpdnaaaC2zx1
import Derived.Test.YtikjdmiohpdnaaaC2zx6
import Derived.Test.YtikjdmiohpdnaaaC2zx7
import Derived.Test.YtikjdmiohpdnaaaC2zAl
namespace Go.Proofs.Ytikjdmiohpdnaaa.C2
open Go.RowKit Go.Proofs.YtikjdmiohpdnaaaW.PrintWords Go.Proofs.YtikjdmiohpdnaaaW.PrintLast Go.Proofs.YtikjdmiohpdnaaaW.PrintMore Go.Proofs.Ytikjdmiohpdnaaa.H
attribute [local go_sem] max2_int min2_int max_two min_two max_three min_three max_four min_four
set_option linter.unusedVariables false
set_option linter.unusedSimpArgs false
def impl_State_code.l0 : Nat → Int → List Bool → Int → Int → Option (Int)
 | 0, _, _, _, _ => none
 | k + 1, x3, x14, x15, x16 => if x16 < x15 then (if 0 ≤ x16 then (if x16 < (x14.length : Int) then ((impl_bit.f (rdOf false x14 x16)).bind fun t251 => (impl_State_code.l0 k (Go.bits .or .i64 x3 (shl .i64 t251 x16)) x14 x15 (wrap64 (x16 + 1)))) else (none)) else (none)) else (some x3)
def impl_State_code.f (k : Nat) (l0_0 : List Bool) (a0_1 : Bool) : Option (Int) := (impl_bit.f a0_1).bind fun t249 => (impl_State_code.l0 k (shl .i64 t249 (l0_0.length : Int)) l0_0 (l0_0.length : Int) 0)
set_option maxHeartbeats 8000000 in
set_option maxRecDepth 100000 in
theorem impl_State_code.calls (k : Nat) (A0_0 : Option Addr) (c0_0 : Nat) (l0_0 : List Bool) (a0_1 : Bool) (r : Int) (w : World) (hr0_0 : Kd.C Kd.bool w A0_0 l0_0.length l0_0) (hc0_0 : l0_0.length ≤ c0_0) (h : impl_State_code.f k l0_0 a0_1 = some r) :
  Calls Try.prog 71 #[.agg #[.slice A0_0 l0_0.length c0_0, .bool a0_1]] w fun e w' => e = .returned (.int .i64 r) ∧ Below w.heap.size w w' := by
 have hu38 := Try.underlying38
 have HR0_0 := am' hr0_0
 have HC0_0 := am' hc0_0
 clear hr0_0 hc0_0; have HB := am' (Below.refl w.heap.size w)
 have H : ((impl_bit.f a0_1).bind fun t249 => (impl_State_code.l0 k (shl .i64 t249 (l0_0.length : Int)) l0_0 (l0_0.length : Int) 0)) = some r := h
 clear h; replace H := Option.bind_eq_some_iff.mp H
 obtain ⟨t249, A20, H⟩ := H
 replace H : (impl_State_code.l0 k (shl .i64 t249 (l0_0.length : Int)) l0_0 (l0_0.length : Int) 0) = some r := H
 have A2 := am' A20
 clear A20; obtain ⟨ji3, hji3⟩ : ∃ j_ : Int, (shl .i64 t249 (l0_0.length : Int)) = j_ := ⟨_, rfl⟩
 replace H : (impl_State_code.l0 k ji3 l0_0 (l0_0.length : Int) 0) = some r := by first | (rw [hji3] at H; exact H) | (simp only [hji3] at H ⊢; exact H)
 (try rw [hji3] at A2)
 have hji3_ : (IntKind.i64.wrap (t249 * 2 ^ min (l0_0.length : Int).toNat 64)) = ji3 := hji3
 have hji3z : (l0_0.length : Int) ≤ 64 → (IntKind.i64.wrap (t249 * 2 ^ (l0_0.length : Int).toNat)) = ji3 := shl_small hji3
 have hji3p : (IntKind.i64.wrap (t249 * 2 ^ min l0_0.length 64)) = ji3 := hji3_
 have hji3q : (l0_0.length : Int) ≤ 64 → (IntKind.i64.wrap (t249 * 2 ^ l0_0.length)) = ji3 := hji3z
 have hji3y : (wrap64 (t249 * 2 ^ min (l0_0.length : Int).toNat 64)) = ji3 := (i64_w _).symm.trans hji3_
 have hji3x : (l0_0.length : Int) ≤ 64 → (wrap64 (t249 * 2 ^ (l0_0.length : Int).toNat)) = ji3 := fun h_ => (i64_w _).symm.trans (hji3z h_)
 have H' := am' H
 clear H; go_enter Try.func71, Try.ntmps71
 go_wp2_with (first | ((with_reducible refine gate_dst (N := 1) rfl ?_); refine box_event ?hg (N := 1) ?hd (cs := #[.slice A0_0 l0_0.length c0_0, .bool a0_1]) (t := 38) ?hr ?_; (case hd => rfl); (case hg => rfl); (case hr => first | (go_simp; done) | (go_simp; rfl)); intro gb248 hg w4 hbox hb; have n0_ := am' (below_step (by repeat (first | (with_reducible first | exact HB.out | apply ba' | apply bd' | apply be') | exact HB.out)) hb); have n1_ := am' (hbox); have n2_ := am' ((by rw [hg]; exact (below_size (by repeat (first | (with_reducible first | exact HB.out | apply ba' | apply bd' | apply be') | exact HB.out))) : w.heap.size ≤ gb248)); have n3_ := am' ((by rw [hg]; exact (below_size (by repeat (first | (with_reducible first | exact HB.out | apply ba' | apply bd' | apply be') | exact HB.out))) : w.heap.size ≤ gb248)); clear HB; have HB := n0_; have BK248 := n1_; have GW248 := n2_; have GE248 := n3_; clear n0_ n1_ n2_ n3_; clear hb hbox hg; have hcz5_0 : w4.cell? ⟨gb248, 0, none⟩ = some (.slice A0_0 l0_0.length c0_0) := (blk_cell BK248.out 0).trans rfl; have hcz5_1 : w4.cell? ⟨gb248, 1, none⟩ = some (.bool a0_1) := (blk_cell BK248.out 1).trans rfl; have hfz5_0 := blk_frozen BK248.out 0; have hfz5_1 := blk_frozen BK248.out 1) | (go_at_call 98; (with_reducible refine (impl_bit.calls a0_1 t249 _ A2.out).mono ?_); rintro e w' ⟨rfl, ⟨nd, rfl⟩⟩; (try first | exact ⟨rfl, _, World.drewN_drewN _ _ _⟩ | exact ⟨rfl, _, Eq.trans (World.drewN_drewN _ _ _) (congrArg (World.drewN _) (Nat.add_assoc _ _ _))⟩)))
 repeat (go_quiet (first | ((with_reducible refine gate_dst (N := 1) rfl ?_); refine box_event ?hg (N := 1) ?hd (cs := #[.slice A0_0 l0_0.length c0_0, .bool a0_1]) (t := 38) ?hr ?_; (case hd => rfl); (case hg => rfl); (case hr => first | (go_simp; done) | (go_simp; rfl)); intro gb248 hg w4 hbox hb; have n0_ := am' (below_step (by repeat (first | (with_reducible first | exact HB.out | apply ba' | apply bd' | apply be') | exact HB.out)) hb); have n1_ := am' (hbox); have n2_ := am' ((by rw [hg]; exact (below_size (by repeat (first | (with_reducible first | exact HB.out | apply ba' | apply bd' | apply be') | exact HB.out))) : w.heap.size ≤ gb248)); have n3_ := am' ((by rw [hg]; exact (below_size (by repeat (first | (with_reducible first | exact HB.out | apply ba' | apply bd' | apply be') | exact HB.out))) : w.heap.size ≤ gb248)); clear HB; have HB := n0_; have BK248 := n1_; have GW248 := n2_; have GE248 := n3_; clear n0_ n1_ n2_ n3_; clear hb hbox hg; have hcz5_0 : w4.cell? ⟨gb248, 0, none⟩ = some (.slice A0_0 l0_0.length c0_0) := (blk_cell BK248.out 0).trans rfl; have hcz5_1 : w4.cell? ⟨gb248, 1, none⟩ = some (.bool a0_1) := (blk_cell BK248.out 1).trans rfl; have hfz5_0 := blk_frozen BK248.out 0; have hfz5_1 := blk_frozen BK248.out 1) | (go_at_call 98; (with_reducible refine (impl_bit.calls a0_1 t249 _ A2.out).mono ?_); rintro e w' ⟨rfl, ⟨nd, rfl⟩⟩; (try first | exact ⟨rfl, _, World.drewN_drewN _ _ _⟩ | exact ⟨rfl, _, Eq.trans (World.drewN_drewN _ _ _) (congrArg (World.drewN _) (Nat.add_assoc _ _ _))⟩))); try go_wp2_with (first | ((with_reducible refine gate_dst (N := 1) rfl ?_); refine box_event ?hg (N := 1) ?hd (cs := #[.slice A0_0 l0_0.length c0_0, .bool a0_1]) (t := 38) ?hr ?_; (case hd => rfl); (case hg => rfl); (case hr => first | (go_simp; done) | (go_simp; rfl)); intro gb248 hg w4 hbox hb; have n0_ := am' (below_step (by repeat (first | (with_reducible first | exact HB.out | apply ba' | apply bd' | apply be') | exact HB.out)) hb); have n1_ := am' (hbox); have n2_ := am' ((by rw [hg]; exact (below_size (by repeat (first | (with_reducible first | exact HB.out | apply ba' | apply bd' | apply be') | exact HB.out))) : w.heap.size ≤ gb248)); have n3_ := am' ((by rw [hg]; exact (below_size (by repeat (first | (with_reducible first | exact HB.out | apply ba' | apply bd' | apply be') | exact HB.out))) : w.heap.size ≤ gb248)); clear HB; have HB := n0_; have BK248 := n1_; have GW248 := n2_; have GE248 := n3_; clear n0_ n1_ n2_ n3_; clear hb hbox hg; have hcz5_0 : w4.cell? ⟨gb248, 0, none⟩ = some (.slice A0_0 l0_0.length c0_0) := (blk_cell BK248.out 0).trans rfl; have hcz5_1 : w4.cell? ⟨gb248, 1, none⟩ = some (.bool a0_1) := (blk_cell BK248.out 1).trans rfl; have hfz5_0 := blk_frozen BK248.out 0; have hfz5_1 := blk_frozen BK248.out 1) | (go_at_call 98; (with_reducible refine (impl_bit.calls a0_1 t249 _ A2.out).mono ?_); rintro e w' ⟨rfl, ⟨nd, rfl⟩⟩; (try first | exact ⟨rfl, _, World.drewN_drewN _ _ _⟩ | exact ⟨rfl, _, Eq.trans (World.drewN_drewN _ _ _) (congrArg (World.drewN _) (Nat.add_assoc _ _ _))⟩))))
 go_loopg [3, 16] k (fun kq v3 v16 w' => ∃ (x3_1 : Int) (x16_1 : Int), v3 = .int .i64 x3_1 ∧ v16 = .int .i64 x16_1 ∧ Aside0 (impl_State_code.l0 kq x3_1 l0_0 (l0_0.length : Int) x16_1 = some r) ∧ Aside0 (kq ≤ k) ∧ Aside0 (w'.heap[gb248]? = some (.cells #[(.slice A0_0 l0_0.length c0_0), .bool a0_1] 38 (0, 0))) ∧ Aside0 (Below w.heap.size w w'))
 case atStart => exact ⟨(ji3), (0), (by first | rfl | (simp; done) | (simp only [← hji3] <;> (first | rfl | simp)) | (simp [*]; done)), (by first | rfl | (simp; done) | (simp [*]; done)), H', ⟨Nat.le_refl _⟩, ⟨by (with_reducible repeat (first | refine kn' ?_ _ | refine kd' ?_ | refine ka' ?_ _)); exact BK248.out⟩, ⟨by repeat (first | (with_reducible first | exact HB.out | apply ba' | apply bd' | apply be' | refine bs' ?_ GE248.out) | exact HB.out)⟩⟩
 case round =>
  clear H'; try clear p2
  try clear hcz5_0
  try clear hcz5_1
  try clear hfz5_0
  try clear hfz5_1
  obtain ⟨x3_1, x16_1, rfl, rfl, HA, HK1, BK248, HB⟩ := hrel
  cases gk with
  | zero => exact absurd HA.out (by simp [impl_State_code.l0])
  | succ k1 =>
   have H := HA.out
   clear HA; simp only [impl_State_code.l0] at H
   by_cases c6 : x16_1 < (l0_0.length : Int)
   ·
    rw [if_pos c6] at H; have c6b0 : decide (x16_1 < (l0_0.length : Int)) = true := decide_eq_true c6
    clear c6; by_cases c7 : 0 ≤ x16_1
    ·
     rw [if_pos c7] at H; have c7b0 : decide (0 ≤ x16_1) = true := decide_eq_true c7
     clear c7; by_cases c8 : x16_1 < (l0_0.length : Int)
     ·
      rw [if_pos c8] at H; have c8b0 : decide (x16_1 < (l0_0.length : Int)) = true := decide_eq_true c8
      clear c8; replace H := Option.bind_eq_some_iff.mp H
      obtain ⟨t251, A90, H⟩ := H
      replace H : (impl_State_code.l0 k1 (Go.bits .or .i64 x3_1 (shl .i64 t251 x16_1)) l0_0 (l0_0.length : Int) (wrap64 (x16_1 + 1))) = some r := H
      have A9 := am' A90
      clear A90; have c10b0 := eq_true (of_decide_eq_true (by first | (with_reducible assumption) | assumption) : 0 ≤ x16_1)
      obtain ⟨ji11, hji11⟩ : ∃ j_ : Int, (shl .i64 t251 x16_1) = j_ := ⟨_, rfl⟩
      replace H : (impl_State_code.l0 k1 (Go.bits .or .i64 x3_1 (ji11)) l0_0 (l0_0.length : Int) (wrap64 (x16_1 + 1))) = some r := by first | (rw [hji11] at H; exact H) | (simp only [hji11] at H ⊢; exact H)
      (try rw [hji11] at A9)
      have hji11_ : (IntKind.i64.wrap (t251 * 2 ^ min x16_1.toNat 64)) = ji11 := hji11
      have hji11z : x16_1 ≤ 64 → (IntKind.i64.wrap (t251 * 2 ^ x16_1.toNat)) = ji11 := shl_small hji11
      have hji11y : (wrap64 (t251 * 2 ^ min x16_1.toNat 64)) = ji11 := (i64_w _).symm.trans hji11_
      have hji11x : x16_1 ≤ 64 → (wrap64 (t251 * 2 ^ x16_1.toNat)) = ji11 := fun h_ => (i64_w _).symm.trans (hji11z h_)
      have H' := am' H
      clear H; have p250 : 0 ≤ (x16_1 : Int) := of_decide_eq_true (by first | (with_reducible assumption) | assumption)
      have q250 : x16_1 < (l0_0.length : Int) := of_decide_eq_true (by first | (with_reducible assumption) | assumption)
      obtain ⟨ad250, e250, hx250_0⟩ := Kd.at_bool HR0_0.out x16_1 p250 q250
      cases e250
      replace hx250_0 := (HB.out.cell (bl' w _ hx250_0)).trans hx250_0
      replace p250 := eq_true p250
      replace q250 := eq_true q250
      go_wp2_with (first | (go_at_call 98; (with_reducible refine (impl_bit.calls (rdOf false l0_0 x16_1) t251 _ A9.out).mono ?_); rintro e w' ⟨rfl, ⟨nd, rfl⟩⟩; (try first | exact ⟨rfl, _, World.drewN_drewN _ _ _⟩ | exact ⟨rfl, _, Eq.trans (World.drewN_drewN _ _ _) (congrArg (World.drewN _) (Nat.add_assoc _ _ _))⟩)))
      repeat (go_quiet (first | (go_at_call 98; (with_reducible refine (impl_bit.calls (rdOf false l0_0 x16_1) t251 _ A9.out).mono ?_); rintro e w' ⟨rfl, ⟨nd, rfl⟩⟩; (try first | exact ⟨rfl, _, World.drewN_drewN _ _ _⟩ | exact ⟨rfl, _, Eq.trans (World.drewN_drewN _ _ _) (congrArg (World.drewN _) (Nat.add_assoc _ _ _))⟩))); try go_wp2_with (first | (go_at_call 98; (with_reducible refine (impl_bit.calls (rdOf false l0_0 x16_1) t251 _ A9.out).mono ?_); rintro e w' ⟨rfl, ⟨nd, rfl⟩⟩; (try first | exact ⟨rfl, _, World.drewN_drewN _ _ _⟩ | exact ⟨rfl, _, Eq.trans (World.drewN_drewN _ _ _) (congrArg (World.drewN _) (Nat.add_assoc _ _ _))⟩))))
      go_roundg k1
      case measure => have := HK1.out; omega
      case rel => exact ⟨(Go.bits .or .i64 x3_1 (ji11)), (wrap64 (x16_1 + 1)), (by first | rfl | (simp; done) | (simp only [← hji11] <;> (first | rfl | simp)) | (simp [*]; done)), (by first | rfl | (simp; done) | (simp [*]; done)), H', ⟨by have := HK1.out; omega⟩, ⟨by (with_reducible repeat (first | refine kn' ?_ _ | refine kd' ?_ | refine ka' ?_ _)); exact BK248.out⟩, ⟨by repeat (first | (with_reducible first | exact HB.out | apply ba' | apply bd' | apply be' | refine bs' ?_ GE248.out) | exact HB.out)⟩⟩
     ·
      rw [if_neg c8] at H; exact absurd H (by simp)
    ·
     rw [if_neg c7] at H; exact absurd H (by simp)
   ·
    rw [if_neg c6] at H; have c6b0 : decide (x16_1 < (l0_0.length : Int)) = false := decide_eq_false c6
    clear c6; obtain rfl := Option.some.inj H
    go_wp2
    repeat (go_quiet (fail); try go_wp2)
    go_ret
    exact ⟨by first | rfl | (simp [errW_none, errW_some] <;> rfl) | (simp only [← hji3]; first | rfl | (simp [errW_none, errW_some] <;> rfl)) | (simp [*, errW_none, errW_some] <;> rfl), by repeat (first | (with_reducible first | exact HB.out | apply ba' | apply bd' | apply be' | refine bs' ?_ GE248.out) | exact HB.out)⟩
def impl_last.f (a0 : Int) : Option (Int) := if 0 ≤ (wrap64 (a0 + 1)) then (some (wrap64 ((shl .i64 1 (wrap64 (a0 + 1))) - 1))) else (none)
set_option maxHeartbeats 8000000 in
set_option maxRecDepth 100000 in
theorem impl_last.calls (a0 : Int) (r : Int) (w : World) (h : impl_last.f a0 = some r) :
  Calls Try.prog 72 #[.int .i64 a0] w fun e w' => e = .returned (.int .i64 r) ∧ Drawn0 w w' := by
 have H : (if 0 ≤ (wrap64 (a0 + 1)) then (some (wrap64 ((shl .i64 1 (wrap64 (a0 + 1))) - 1))) else (none)) = some r := h
 clear h; obtain ⟨ji2, hji2⟩ : ∃ j_ : Int, (wrap64 (a0 + 1)) = j_ := ⟨_, rfl⟩
 replace H : (if 0 ≤ (ji2) then (some (wrap64 ((shl .i64 1 (ji2)) - 1))) else (none)) = some r := by first | (rw [hji2] at H; exact H) | (simp only [hji2] at H ⊢; exact H)
 have hji2w : (IntKind.i64.wrap (a0 + 1)) = ji2 := (i64_w _).trans hji2
 by_cases c3 : 0 ≤ (ji2)
 ·
  rw [if_pos c3] at H; have c3b0 := eq_true c3
  have c3b1 : decide (0 ≤ (ji2)) = true := decide_eq_true c3
  clear c3; obtain ⟨ji4, hji4⟩ : ∃ j_ : Int, (shl .i64 1 (ji2)) = j_ := ⟨_, rfl⟩
  replace H : (some (wrap64 ((ji4) - 1))) = some r := by first | (rw [hji4] at H; exact H) | (simp only [hji4] at H ⊢; exact H)
  have hji4_ : (IntKind.i64.wrap (1 * 2 ^ min (ji2).toNat 64)) = ji4 := hji4
  have hji4z : (ji2) ≤ 64 → (IntKind.i64.wrap (1 * 2 ^ (ji2).toNat)) = ji4 := shl_small hji4
  have hji4u : (IntKind.i64.wrap (2 ^ min (ji2).toNat 64)) = ji4 := by have h_ := hji4_; rw [Int.one_mul] at h_; exact h_
  have hji4v : (ji2) ≤ 64 → (IntKind.i64.wrap (2 ^ (ji2).toNat)) = ji4 := fun hle_ => by have h_ := hji4z hle_; rw [Int.one_mul] at h_; exact h_
  have hji4y : (wrap64 (1 * 2 ^ min (ji2).toNat 64)) = ji4 := (i64_w _).symm.trans hji4_
  have hji4x : (ji2) ≤ 64 → (wrap64 (1 * 2 ^ (ji2).toNat)) = ji4 := fun h_ => (i64_w _).symm.trans (hji4z h_)
  obtain rfl := Option.some.inj H
  go_enter Try.func72, Try.ntmps72
  go_wp2
  go_ret
  exact ⟨by first | rfl | (simp; done) | (simp only [← hji2, ← hji4] <;> (first | rfl | simp)) | (simp [*]; done), by repeat (first | exact Drawn0.refl _ | apply Drawn0.step)⟩
 ·
  rw [if_neg c3] at H; exact absurd H (by simp)
mutual
def impl_IsCrewPlan.j0 : Nat → List (List Int) → Bool → List Int → List Bool → Int → Option (Bool × Bool)
 | 0, _, _, _, _, _ => none
 | k + 1, x1, x16, x253000, x253001, x253002 => if x16 = true then (some (false, false)) else ((impl_allAt.f (x253000.length : Int) false).bind fun bt254 => (impl_IsCrewPlan.l0 k x1 (x1.length : Int) 0 x253000 x253001 x253002 bt254.1 bt254.2))
def impl_IsCrewPlan.l0 : Nat → List (List Int) → Int → Int → List Int → List Bool → Int → List Bool → Bool → Option (Bool × Bool)
 | 0, _, _, _, _, _, _, _, _ => none
 | k + 1, x21, x22, x23, x253000, x253001, x253002, x259000, x259001 => if x23 < x22 then (if 0 ≤ x23 then (if x23 < (x21.length : Int) then ((impl_Crew_isRide.f k x253000 x253001 x253002 x259000 x259001 (rd_L2 x21 x23)).bind fun t262 => (if t262 = true then ((impl_State_moved.f k x259000 x259001 (rd_L2 x21 x23)).bind fun bt263 => (impl_IsCrewPlan.l0 k x21 x22 (wrap64 (x23 + 1)) x253000 x253001 x253002 bt263.1 bt263.2)) else (some (false, true)))) else (none)) else (none)) else ((impl_State_code.f k x259000 x259001).bind fun t259 => ((impl_last.f (x253000.length : Int)).bind fun t260 => (some ((t259 == t260), true))))
end
def impl_IsCrewPlan.f (k : Nat) (l0_0 : List Int) (l0_1 : List Bool) (a0_2 : Int) (l1 : List (List Int)) : Option (Bool × Bool) := (impl_IsCrew.f l0_0 l0_1 a0_2).bind fun t253 => (if t253 = true then (impl_IsCrewPlan.j0 k l1 (decide ((l1.length : Int) > 40)) l0_0 l0_1 a0_2) else (impl_IsCrewPlan.j0 k l1 true l0_0 l0_1 a0_2))
def impl_IsCrewPlan.T11 : Bool × List (List Nat × List Nat) := (true, [([], []), ([0], [0]), ([], []), ([2], [2]), ([3], [3]), ([4, 1], [4]), ([1, 5], [1, 5]), ([6, 5, 0, 1, 2, 3, 4, 5, 6], [6]), ([7, 0, 1, 2, 3, 4, 5, 6, 7], [])])
def impl_IsCrewPlan.B11 : List Nat := [0, 1, 0, 4, 12, 31, 63, 127, 255]
theorem impl_IsCrewPlan.tab11 : rtab .any (opsOf Try.f31 11) = impl_IsCrewPlan.T11 := by kernel_rfl
theorem impl_IsCrewPlan.bits11 : waitsOk impl_IsCrewPlan.T11.2 impl_IsCrewPlan.B11 = true := by kernel_rfl
set_option maxHeartbeats 8000000 in
set_option maxRecDepth 100000 in
theorem impl_IsCrewPlan.calls (k : Nat) (A0_0 : Option Addr) (c0_0 : Nat) (l0_0 : List Int) (A0_1 : Option Addr) (c0_1 : Nat) (l0_1 : List Bool) (a0_2 : Int) (A1 : Option Addr) (c1 : Nat) (l1 : List (List Int)) (r1 : Bool) (r2 : Bool) (w : World) (hr0_0 : Kd.C (Kd.int .i64) w A0_0 l0_0.length l0_0) (hc0_0 : l0_0.length ≤ c0_0) (hr0_1 : Kd.C Kd.bool w A0_1 l0_1.length l0_1) (hc0_1 : l0_1.length ≤ c0_1) (hr1 : Kd.C (Kd.slice 3 (Kd.int .i64)) w A1 l1.length l1) (hc1 : l1.length ≤ c1) (h : impl_IsCrewPlan.f k l0_0 l0_1 a0_2 l1 = some (r1, r2)) :
  Calls Try.prog 31 #[.agg #[.slice A0_0 l0_0.length c0_0, .slice A0_1 l0_1.length c0_1, .int .i64 a0_2], .slice A1 l1.length c1] w fun e w' => e = .returned (.tuple #[.bool r1, .bool r2]) ∧ Below w.heap.size w w' := by
 have hu29 := Try.underlying29
 have hu38 := Try.underlying38
 have HR0_0 := am' hr0_0
 have HC0_0 := am' hc0_0
 clear hr0_0 hc0_0; have HR0_1 := am' hr0_1
 have HC0_1 := am' hc0_1
 clear hr0_1 hc0_1; have HR1 := am' hr1
 have HC1 := am' hc1
 clear hr1 hc1; have HB := am' (Below.refl w.heap.size w)
 have H : ((impl_IsCrew.f l0_0 l0_1 a0_2).bind fun t253 => (if t253 = true then (impl_IsCrewPlan.j0 k l1 (decide ((l1.length : Int) > 40)) l0_0 l0_1 a0_2) else (impl_IsCrewPlan.j0 k l1 true l0_0 l0_1 a0_2))) = some (r1, r2) := h
 clear h; have HC3 := am' H
 clear H; go_enter Try.func31, Try.ntmps31
 go_upto_region 1 with (first | ((with_reducible refine gate_dst (N := 2) rfl ?_); (try (refine gate_guard (by rfl) ?_; dsimp only)); refine box_event ?hg (N := 2) ?hd (cs := #[.slice A0_0 l0_0.length c0_0, .slice A0_1 l0_1.length c0_1, .int .i64 a0_2]) (t := 29) ?hr ?_; (case hd => rfl); (case hg => rfl); (case hr => first | (go_simp; done) | (go_simp; rfl)); intro gb252 hg w4 hbox hb; have n0_ := am' (below_step (by repeat (first | (with_reducible first | exact HB.out | apply ba' | apply bd' | apply be') | exact HB.out)) hb); have n1_ := am' (hbox); have n2_ := am' ((by rw [hg]; exact (below_size (by repeat (first | (with_reducible first | exact HB.out | apply ba' | apply bd' | apply be') | exact HB.out))) : w.heap.size ≤ gb252)); have n3_ := am' ((by rw [hg]; exact (below_size (by repeat (first | (with_reducible first | exact HB.out | apply ba' | apply bd' | apply be') | exact HB.out))) : w.heap.size ≤ gb252)); clear HB; have HB := n0_; have BK252 := n1_; have GW252 := n2_; have GE252 := n3_; clear n0_ n1_ n2_ n3_; clear hb hbox hg))
 (try simp only [Act.put, sa', sb', sc'])
 go_cut [16] (fun v16 wc => ∃ (kq : Nat) (x16_2 : Bool), v16 = .bool x16_2 ∧ Aside0 (impl_IsCrewPlan.j0 kq l1 x16_2 l0_0 l0_1 a0_2 = some (r1, r2)) ∧ Aside0 (kq ≤ k) ∧ Aside0 (wc.heap[gb252]? = some (.cells #[(.slice A0_0 l0_0.length c0_0), (.slice A0_1 l0_1.length c0_1), .int .i64 a0_2] 29 (0, 0))) ∧ Aside0 (Below w.heap.size w wc))
 case first =>
  have H := HC3.out
  clear HC3; replace H := Option.bind_eq_some_iff.mp H
  obtain ⟨t253, A50, H⟩ := H
  replace H : (if t253 = true then (impl_IsCrewPlan.j0 k l1 (decide ((l1.length : Int) > 40)) l0_0 l0_1 a0_2) else (impl_IsCrewPlan.j0 k l1 true l0_0 l0_1 a0_2)) = some (r1, r2) := H
  have A5 := am' A50
  clear A50; by_cases c6 : t253 = true
  ·
   subst c6; have H1 : (impl_IsCrewPlan.j0 k l1 (decide ((l1.length : Int) > 40)) l0_0 l0_1 a0_2) = some (r1, r2) := by rw [if_pos rfl] at H; exact H
   clear H; have H := H1; clear H1; have H' := am' H
   clear H; have hcz7_0 : w4.cell? ⟨gb252, 0, none⟩ = some (.slice A0_0 l0_0.length c0_0) := (blk_cell BK252.out 0).trans rfl
   have hcz7_1 : w4.cell? ⟨gb252, 1, none⟩ = some (.slice A0_1 l0_1.length c0_1) := (blk_cell BK252.out 1).trans rfl
   have hcz7_2 : w4.cell? ⟨gb252, 2, none⟩ = some (.int .i64 a0_2) := (blk_cell BK252.out 2).trans rfl
   have hfz7_0 := blk_frozen BK252.out 0
   have hfz7_1 := blk_frozen BK252.out 1
   have hfz7_2 := blk_frozen BK252.out 2
   go_wp2_with (first | ((with_reducible refine gate_callee (f := 54) rfl ?_); refine goesL_ (some 10) rfl rfl Try.func54 (by kernel_rfl) rfl #[.agg #[.slice A0_0 l0_0.length c0_0, .slice A0_1 l0_1.length c0_1, .int .i64 a0_2]] rfl (by (try simp only [List.map_toArray, List.map_cons, List.map_nil]); first | done | rfl | (simp only [List.length_drop, List.length_take]; rfl)) ?_; (with_reducible refine (impl_IsCrew.calls _ _ l0_0 _ _ l0_1 a0_2 true _ ?side1 ?side2 ?side3 ?side4 A5.out).mono ?_); (case side1 => repeat (first | exact (Kd.C_below HR0_0.out HB.out) | (with_reducible refine ca' ?_ _) | (with_reducible refine cn' ?_ _) | (with_reducible refine cd' ?_))); (case side2 => exact HC0_0.out); (case side3 => repeat (first | exact (Kd.C_below HR0_1.out HB.out) | (with_reducible refine ca' ?_ _) | (with_reducible refine cn' ?_ _) | (with_reducible refine cd' ?_))); (case side4 => exact HC0_1.out); rintro e w8 ⟨rfl, hb⟩; refine ⟨_, rfl, ?_⟩; have n0_ := am' (blk_below (g := gb252) (o := .cells #[.slice A0_0 l0_0.length c0_0, .slice A0_1 l0_1.length c0_1, .int .i64 a0_2] 29 (0, 0)) (by (with_reducible repeat (first | refine kn' ?_ _ | refine kd' ?_ | refine ka' ?_ _)); exact BK252.out) hb); have n1_ := am' (below_step (by repeat (first | (with_reducible first | exact HB.out | apply ba' | apply bd' | apply be' | refine bs' ?_ GE252.out) | exact HB.out)) hb); clear BK252; clear HB; have BK252 := n0_; have HB := n1_; clear n0_ n1_; (try clear hb); (try clear hb2); (try clear hk); (try clear hi)))
   go_meet
   case rel => exact ⟨_, (decide ((l1.length : Int) > 40)), (by first | rfl | (simp; done) | (simp [*]; done)), H', ⟨by first | omega | exact Nat.le_refl _⟩, ⟨by (with_reducible repeat (first | refine kn' ?_ _ | refine kd' ?_ | refine ka' ?_ _)); exact BK252.out⟩, ⟨by repeat (first | (with_reducible first | exact HB.out | apply ba' | apply bd' | apply be' | refine bs' ?_ GE252.out) | exact HB.out)⟩⟩
  ·
   replace c6 := Bool.eq_false_iff.mpr c6
   subst c6; have H1 : (impl_IsCrewPlan.j0 k l1 true l0_0 l0_1 a0_2) = some (r1, r2) := by rw [if_neg (show ¬ (false = true) by decide)] at H; exact H
   clear H; have H := H1; clear H1; have H' := am' H
   clear H; have hcz9_0 : w4.cell? ⟨gb252, 0, none⟩ = some (.slice A0_0 l0_0.length c0_0) := (blk_cell BK252.out 0).trans rfl
   have hcz9_1 : w4.cell? ⟨gb252, 1, none⟩ = some (.slice A0_1 l0_1.length c0_1) := (blk_cell BK252.out 1).trans rfl
   have hcz9_2 : w4.cell? ⟨gb252, 2, none⟩ = some (.int .i64 a0_2) := (blk_cell BK252.out 2).trans rfl
   have hfz9_0 := blk_frozen BK252.out 0
   have hfz9_1 := blk_frozen BK252.out 1
   have hfz9_2 := blk_frozen BK252.out 2
   go_wp2_with (first | ((with_reducible refine gate_callee (f := 54) rfl ?_); refine goesL_ (some 10) rfl rfl Try.func54 (by kernel_rfl) rfl #[.agg #[.slice A0_0 l0_0.length c0_0, .slice A0_1 l0_1.length c0_1, .int .i64 a0_2]] rfl (by (try simp only [List.map_toArray, List.map_cons, List.map_nil]); first | done | rfl | (simp only [List.length_drop, List.length_take]; rfl)) ?_; (with_reducible refine (impl_IsCrew.calls _ _ l0_0 _ _ l0_1 a0_2 false _ ?side1 ?side2 ?side3 ?side4 A5.out).mono ?_); (case side1 => repeat (first | exact (Kd.C_below HR0_0.out HB.out) | (with_reducible refine ca' ?_ _) | (with_reducible refine cn' ?_ _) | (with_reducible refine cd' ?_))); (case side2 => exact HC0_0.out); (case side3 => repeat (first | exact (Kd.C_below HR0_1.out HB.out) | (with_reducible refine ca' ?_ _) | (with_reducible refine cn' ?_ _) | (with_reducible refine cd' ?_))); (case side4 => exact HC0_1.out); rintro e w10 ⟨rfl, hb⟩; refine ⟨_, rfl, ?_⟩; have n0_ := am' (blk_below (g := gb252) (o := .cells #[.slice A0_0 l0_0.length c0_0, .slice A0_1 l0_1.length c0_1, .int .i64 a0_2] 29 (0, 0)) (by (with_reducible repeat (first | refine kn' ?_ _ | refine kd' ?_ | refine ka' ?_ _)); exact BK252.out) hb); have n1_ := am' (below_step (by repeat (first | (with_reducible first | exact HB.out | apply ba' | apply bd' | apply be' | refine bs' ?_ GE252.out) | exact HB.out)) hb); clear BK252; clear HB; have BK252 := n0_; have HB := n1_; clear n0_ n1_; (try clear hb); (try clear hb2); (try clear hk); (try clear hi)))
   go_meet
   case rel => exact ⟨_, (true), (by first | rfl | (simp; done) | (simp [*]; done)), H', ⟨by first | omega | exact Nat.le_refl _⟩, ⟨by (with_reducible repeat (first | refine kn' ?_ _ | refine kd' ?_ | refine ka' ?_ _)); exact BK252.out⟩, ⟨by repeat (first | (with_reducible first | exact HB.out | apply ba' | apply bd' | apply be' | refine bs' ?_ GE252.out) | exact HB.out)⟩⟩
 case rest =>
  clear HC3; try clear c1
  try clear p2
  try clear c3
  try clear c5
  try clear c6
  try clear hcz7_0
  try clear hcz7_1
  try clear hcz7_2
  try clear hcz9_0
  try clear hcz9_1
  try clear hcz9_2
  try clear hfz7_0
  try clear hfz7_1
  try clear hfz7_2
  try clear hfz9_0
  try clear hfz9_1
  try clear hfz9_2
  obtain ⟨kq, x16_2, rfl, HA, HJ2, BK252, HB⟩ := hcut
  cases kq with
  | zero => exact absurd HA.out (by simp [impl_IsCrewPlan.j0])
  | succ kj2 =>
   have H := HA.out
   clear HA; simp only [impl_IsCrewPlan.j0] at H
   by_cases c11 : x16_2 = true
   ·
    subst c11; have H1 : (some (false, false)) = some (r1, r2) := by rw [if_pos rfl] at H; exact H
    clear H; have H := H1; clear H1; simp only [Option.some.injEq, Prod.mk.injEq] at H
    obtain ⟨rfl, rfl⟩ := H
    go_wp2
    go_ret2
    exact ⟨by first | rfl | (simp [errW_none, errW_some] <;> rfl) | (simp [*, errW_none, errW_some] <;> rfl), by repeat (first | (with_reducible first | exact HB.out | apply ba' | apply bd' | apply be' | refine bs' ?_ GE252.out) | exact HB.out)⟩
   ·
    replace c11 := Bool.eq_false_iff.mpr c11
    subst c11; have H1 : ((impl_allAt.f (l0_0.length : Int) false).bind fun bt254 => (impl_IsCrewPlan.l0 kj2 l1 (l1.length : Int) 0 l0_0 l0_1 a0_2 bt254.1 bt254.2)) = some (r1, r2) := by rw [if_neg (show ¬ (false = true) by decide)] at H; exact H
    clear H; have H := H1; clear H1; replace H := Option.bind_eq_some_iff.mp H
    obtain ⟨⟨t254, t257⟩, A120, H⟩ := H
    replace H : (impl_IsCrewPlan.l0 kj2 l1 (l1.length : Int) 0 l0_0 l0_1 a0_2 t254 t257) = some (r1, r2) := H
    have A12 := am' A120
    clear A120; have H' := am' H
    clear H; have hcz13_0 : wc.cell? ⟨gb252, 0, none⟩ = some (.slice A0_0 l0_0.length c0_0) := (blk_cell BK252.out 0).trans rfl
    have hcz13_1 : wc.cell? ⟨gb252, 1, none⟩ = some (.slice A0_1 l0_1.length c0_1) := (blk_cell BK252.out 1).trans rfl
    have hcz13_2 : wc.cell? ⟨gb252, 2, none⟩ = some (.int .i64 a0_2) := (blk_cell BK252.out 2).trans rfl
    have hfz13_0 := blk_frozen BK252.out 0
    have hfz13_1 := blk_frozen BK252.out 1
    have hfz13_2 := blk_frozen BK252.out 2
    go_wp2_with (first | ((with_reducible refine gate_callee (f := 70) rfl ?_); refine goesL_ (some 20) rfl rfl Try.func70 (by kernel_rfl) rfl #[.int .i64 (l0_0.length : Int), .bool false] rfl (by (try simp only [List.map_toArray, List.map_cons, List.map_nil]); first | done | rfl | (simp only [List.length_drop, List.length_take]; rfl)) ?_; (with_reducible refine (impl_allAt.calls (l0_0.length : Int) false t254 t257 _ A12.out).mono ?_); rintro e w14 ⟨v255, rfl, ho0, hb⟩; refine ⟨_, rfl, ?_⟩; have n0_ := am' (Kd.R_lower ho0 (below_size (by repeat (first | (with_reducible first | exact HB.out | apply ba' | apply bd' | apply be' | refine bs' ?_ GE252.out) | exact HB.out)))); have n1_ := am' (blk_below (g := gb252) (o := .cells #[.slice A0_0 l0_0.length c0_0, .slice A0_1 l0_1.length c0_1, .int .i64 a0_2] 29 (0, 0)) (by (with_reducible repeat (first | refine kn' ?_ _ | refine kd' ?_ | refine ka' ?_ _)); exact BK252.out) hb); have n2_ := am' (below_step (by repeat (first | (with_reducible first | exact HB.out | apply ba' | apply bd' | apply be' | refine bs' ?_ GE252.out) | exact HB.out)) hb); clear BK252; clear HB; have HO256 := n0_; have BK252 := n1_; have HB := n2_; clear n0_ n1_ n2_; (try clear hb); (try clear hb2); (try clear hk); (try clear hi); (try clear ho0)) | ((with_reducible refine gate_dst (N := 6) rfl ?_); (try (refine gate_guard (by rfl) ?_; dsimp only)); refine box_event ?hg (N := 6) ?hd (cs := #[.slice none 0 0, .bool false]) (t := 38) ?hr ?_; (case hd => rfl); (case hg => rfl); (case hr => first | (go_simp; done) | (go_simp; rfl)); intro gb258 hg w15 hbox hb; have n0_ := am' (Kd.R_below (by (with_reducible repeat (first | apply ra' | apply rn' | apply rw')); exact HO256.out) hb); have n1_ := am' (blk_below (g := gb252) (o := .cells #[.slice A0_0 l0_0.length c0_0, .slice A0_1 l0_1.length c0_1, .int .i64 a0_2] 29 (0, 0)) (by (with_reducible repeat (first | refine kn' ?_ _ | refine kd' ?_ | refine ka' ?_ _)); exact BK252.out) hb); have n2_ := am' (below_step (by repeat (first | (with_reducible first | exact HB.out | apply ba' | apply bd' | apply be' | refine bs' ?_ GE252.out) | exact HB.out)) hb); have n3_ := am' (hbox); have n4_ := am' ((by rw [hg]; exact (below_size (by repeat (first | (with_reducible first | exact HB.out | apply ba' | apply bd' | apply be' | refine bs' ?_ GE252.out) | exact HB.out))) : w.heap.size ≤ gb258)); have n5_ := am' ((by rw [hg]; exact (below_size (by repeat (first | (with_reducible first | exact HB.out | apply ba' | apply bd' | apply be' | refine bs' ?_ GE252.out) | exact HB.out))) : w.heap.size ≤ gb258)); have n6_ := am' ((by rw [hg]; exact Nat.ne_of_lt (blk_lt (g := gb252) (o := .cells #[.slice A0_0 l0_0.length c0_0, .slice A0_1 l0_1.length c0_1, .int .i64 a0_2] 29 (0, 0)) (by (with_reducible repeat (first | refine kn' ?_ _ | refine kd' ?_ | refine ka' ?_ _)); exact BK252.out)) : gb252 ≠ gb258)); have n7_ := am' ((by rw [hg]; exact Nat.ne_of_gt (blk_lt (g := gb252) (o := .cells #[.slice A0_0 l0_0.length c0_0, .slice A0_1 l0_1.length c0_1, .int .i64 a0_2] 29 (0, 0)) (by (with_reducible repeat (first | refine kn' ?_ _ | refine kd' ?_ | refine ka' ?_ _)); exact BK252.out)) : gb258 ≠ gb252)); clear HO256; clear BK252; clear HB; have HO256 := n0_; have BK252 := n1_; have HB := n2_; have BK258 := n3_; have GW258 := n4_; have GE258 := n5_; have NB252_258 := n6_; have NB258_252 := n7_; clear n0_ n1_ n2_ n3_ n4_ n5_ n6_ n7_; clear hb hbox hg; obtain ⟨Ao16, co16, eo16⟩ := Kd.R_slice HO256.out; subst eo16; have hnb17 := NB258_252.out; have hnc17 := NB252_258.out; have hcz18_0 : w15.cell? ⟨gb258, 0, none⟩ = some (.slice none 0 0) := (blk_cell BK258.out 0).trans rfl; have hcz18_1 : w15.cell? ⟨gb258, 1, none⟩ = some (.bool false) := (blk_cell BK258.out 1).trans rfl; have hfz18_0 := blk_frozen BK258.out 0; have hfz18_1 := blk_frozen BK258.out 1))
    go_loopg [23] kj2 (fun kq v23 w' => ∃ (x23_2 : Int) (x259000_2 : List Bool) (x259001_2 : Bool) (u259000 : Value), v23 = .int .i64 x23_2 ∧ Aside0 (impl_IsCrewPlan.l0 kq l1 (l1.length : Int) x23_2 l0_0 l0_1 a0_2 x259000_2 x259001_2 = some (r1, r2)) ∧ Aside0 (kq ≤ kj2) ∧ Aside0 (Kd.R Kd.bool 4 w' w.heap.size (fun _ => True) u259000 x259000_2) ∧ Aside0 (w'.heap[gb252]? = some (.cells #[(.slice A0_0 l0_0.length c0_0), (.slice A0_1 l0_1.length c0_1), .int .i64 a0_2] 29 (0, 0))) ∧ Aside0 (w'.heap[gb258]? = some (.cells #[u259000, .bool x259001_2] 38 (0, 0))) ∧ Aside0 (Below w.heap.size w w'))
    case atStart => exact ⟨(0), (t254), (t257), (.slice Ao16 t254.length co16), (by first | rfl | (simp; done) | (simp [*]; done)), H', ⟨Nat.le_refl _⟩, ⟨by (with_reducible repeat (first | apply ra' | apply rn' | apply rw')); exact Kd.R_mono (Kd.R_far (p := ⟨gb258, 1, none⟩) (Kd.R_far (p := ⟨gb258, 0, none⟩) (Kd.R_types HO256.out BK258.out (by decide)) (fun _ hk => hk.2) (.slice Ao16 t254.length co16)) (fun _ hk => hk.2) (.bool t257)) (fun _ hk => trivial)⟩, ⟨by (with_reducible repeat (first | refine kn' ?_ _ | refine kd' ?_ | refine ka' ?_ _)); refine blk_far ?_ NB252_258.out _; (with_reducible repeat (first | refine kn' ?_ _ | refine kd' ?_ | refine ka' ?_ _)); refine blk_far ?_ NB252_258.out _; (with_reducible repeat (first | refine kn' ?_ _ | refine kd' ?_ | refine ka' ?_ _)); exact BK252.out⟩, ⟨by (with_reducible repeat (first | refine kn' ?_ _ | refine kd' ?_ | refine ka' ?_ _)); refine blk_put (cs := #[.slice Ao16 t254.length co16, .bool false]) ?_ 1 _ rfl; (with_reducible repeat (first | refine kn' ?_ _ | refine kd' ?_ | refine ka' ?_ _)); refine blk_put (cs := #[.slice none 0 0, .bool false]) ?_ 0 _ rfl; (with_reducible repeat (first | refine kn' ?_ _ | refine kd' ?_ | refine ka' ?_ _)); exact BK258.out⟩, ⟨by repeat (first | (with_reducible first | exact HB.out | apply ba' | apply bd' | apply be' | refine bs' ?_ GE252.out | refine bs' ?_ GE258.out) | exact HB.out)⟩⟩
    case round =>
     clear H'; try clear c1
     try clear p2
     try clear c3
     try clear c5
     try clear c6
     try clear c7
     try clear c11
     try clear c17
     try clear hcz13_0
     try clear hcz13_1
     try clear hcz13_2
     try clear hcz18_0
     try clear hcz18_1
     try clear hcz7_0
     try clear hcz7_1
     try clear hcz7_2
     try clear hcz9_0
     try clear hcz9_1
     try clear hcz9_2
     try clear hfz13_0
     try clear hfz13_1
     try clear hfz13_2
     try clear hfz18_0
     try clear hfz18_1
     try clear hfz7_0
     try clear hfz7_1
     try clear hfz7_2
     try clear hfz9_0
     try clear hfz9_1
     try clear hfz9_2
     try clear p2
     obtain ⟨x23_2, x259000_2, x259001_2, u259000, rfl, HA, HK2, HO_259000, BK252, BK258, HB⟩ := hrel
     cases gk with
     | zero => exact absurd HA.out (by simp [impl_IsCrewPlan.l0])
     | succ k2 =>
      have H := HA.out
      clear HA; simp only [impl_IsCrewPlan.l0] at H
      by_cases c19 : x23_2 < (l1.length : Int)
      ·
       rw [if_pos c19] at H; have c19b0 : decide (x23_2 < (l1.length : Int)) = true := decide_eq_true c19
       clear c19; by_cases c20 : 0 ≤ x23_2
       ·
        rw [if_pos c20] at H; have c20b0 : decide (0 ≤ x23_2) = true := decide_eq_true c20
        clear c20; by_cases c21 : x23_2 < (l1.length : Int)
        ·
         rw [if_pos c21] at H; have c21b0 : decide (x23_2 < (l1.length : Int)) = true := decide_eq_true c21
         clear c21; replace H := Option.bind_eq_some_iff.mp H
         obtain ⟨t262, A220, H⟩ := H
         replace H : (if t262 = true then ((impl_State_moved.f k2 x259000_2 x259001_2 (rd_L2 l1 x23_2)).bind fun bt263 => (impl_IsCrewPlan.l0 k2 l1 (l1.length : Int) (wrap64 (x23_2 + 1)) l0_0 l0_1 a0_2 bt263.1 bt263.2)) else (some (false, true))) = some (r1, r2) := H
         have A22 := am' A220
         clear A220; by_cases c23 : t262 = true
         ·
          subst c23; have H1 : ((impl_State_moved.f k2 x259000_2 x259001_2 (rd_L2 l1 x23_2)).bind fun bt263 => (impl_IsCrewPlan.l0 k2 l1 (l1.length : Int) (wrap64 (x23_2 + 1)) l0_0 l0_1 a0_2 bt263.1 bt263.2)) = some (r1, r2) := by rw [if_pos rfl] at H; exact H
          clear H; have H := H1; clear H1; replace H := Option.bind_eq_some_iff.mp H
          obtain ⟨⟨t263, t266⟩, A240, H⟩ := H
          replace H : (impl_IsCrewPlan.l0 k2 l1 (l1.length : Int) (wrap64 (x23_2 + 1)) l0_0 l0_1 a0_2 t263 t266) = some (r1, r2) := H
          have A24 := am' A240
          clear A240; have H' := am' H
          clear H; have p261 : 0 ≤ (x23_2 : Int) := of_decide_eq_true (by first | (with_reducible assumption) | assumption)
          have q261 : x23_2 < (l1.length : Int) := of_decide_eq_true (by first | (with_reducible assumption) | assumption)
          obtain ⟨ad261, A261_0, c261_0, e261, hx261_0, hl261_0, hi261_0⟩ := at_L2 HR1.out x23_2 p261 q261
          cases e261
          replace hx261_0 := (HB.out.cell (bl' w _ hx261_0)).trans hx261_0
          have HR261_0 := am' hi261_0
          have HC261_0 := am' hl261_0
          clear hi261_0 hl261_0; replace p261 := eq_true p261
          replace q261 := eq_true q261
          have hnb25 := NB252_258.out
          have hnc25 := NB258_252.out
          have hcz26_0 : wr.cell? ⟨gb252, 0, none⟩ = some (.slice A0_0 l0_0.length c0_0) := (blk_cell BK252.out 0).trans rfl
          have hcz26_1 : wr.cell? ⟨gb252, 1, none⟩ = some (.slice A0_1 l0_1.length c0_1) := (blk_cell BK252.out 1).trans rfl
          have hcz26_2 : wr.cell? ⟨gb252, 2, none⟩ = some (.int .i64 a0_2) := (blk_cell BK252.out 2).trans rfl
          have hfz26_0 := blk_frozen BK252.out 0
          have hfz26_1 := blk_frozen BK252.out 1
          have hfz26_2 := blk_frozen BK252.out 2
          have hcz27_0 : wr.cell? ⟨gb258, 0, none⟩ = some (u259000) := (blk_cell BK258.out 0).trans rfl
          have hcz27_1 : wr.cell? ⟨gb258, 1, none⟩ = some (.bool x259001_2) := (blk_cell BK258.out 1).trans rfl
          have hfz27_0 := blk_frozen BK258.out 0
          have hfz27_1 := blk_frozen BK258.out 1
          obtain ⟨Ao28, co28, eo28⟩ := Kd.R_slice HO_259000.out
          subst eo28; go_wp2_with (first | ((with_reducible refine gate_callee (f := 62) rfl ?_); refine goesL_ (some 30) rfl rfl Try.func62 (by kernel_rfl) rfl #[.agg #[.slice A0_0 l0_0.length c0_0, .slice A0_1 l0_1.length c0_1, .int .i64 a0_2], .agg #[.slice Ao28 x259000_2.length co28, .bool x259001_2], .slice A261_0 (rd_L2 l1 x23_2).length c261_0] rfl (by (try simp only [List.map_toArray, List.map_cons, List.map_nil]); first | done | rfl | (simp only [List.length_drop, List.length_take]; rfl)) ?_; (with_reducible refine (impl_Crew_isRide.calls k2 _ _ l0_0 _ _ l0_1 a0_2 _ _ x259000_2 x259001_2 _ _ (rd_L2 l1 x23_2) true _ ?side1 ?side2 ?side3 ?side4 ?side5 ?side6 ?side7 ?side8 A22.out).mono ?_); (case side1 => repeat (first | exact (Kd.C_below HR0_0.out HB.out) | (with_reducible refine ca' ?_ _) | (with_reducible refine cn' ?_ _) | (with_reducible refine cd' ?_))); (case side2 => exact HC0_0.out); (case side3 => repeat (first | exact (Kd.C_below HR0_1.out HB.out) | (with_reducible refine ca' ?_ _) | (with_reducible refine cn' ?_ _) | (with_reducible refine cd' ?_))); (case side4 => exact HC0_1.out); (case side5 => repeat (first | exact (Kd.R_reads' HO_259000.out).2.2 | (with_reducible refine ca' ?_ _) | (with_reducible refine cn' ?_ _) | (with_reducible refine cd' ?_))); (case side6 => exact (Kd.R_reads' HO_259000.out).2.1); (case side7 => repeat (first | exact (Kd.C_below HR261_0.out HB.out) | (with_reducible refine ca' ?_ _) | (with_reducible refine cn' ?_ _) | (with_reducible refine cd' ?_))); (case side8 => exact HC261_0.out); rintro e w29 ⟨rfl, hb⟩; refine ⟨_, rfl, ?_⟩; have n0_ := am' (Kd.R_below (by (with_reducible repeat (first | apply ra' | apply rn' | apply rw')); exact HO_259000.out) hb); have n1_ := am' (blk_below (g := gb252) (o := .cells #[.slice A0_0 l0_0.length c0_0, .slice A0_1 l0_1.length c0_1, .int .i64 a0_2] 29 (0, 0)) (by (with_reducible repeat (first | refine kn' ?_ _ | refine kd' ?_ | refine ka' ?_ _)); exact BK252.out) hb); have n2_ := am' (blk_below (g := gb258) (o := .cells #[.slice Ao28 x259000_2.length co28, .bool x259001_2] 38 (0, 0)) (by (with_reducible repeat (first | refine kn' ?_ _ | refine kd' ?_ | refine ka' ?_ _)); exact BK258.out) hb); have n3_ := am' (below_step (by repeat (first | (with_reducible first | exact HB.out | apply ba' | apply bd' | apply be' | refine bs' ?_ GE252.out | refine bs' ?_ GE258.out) | exact HB.out)) hb); clear HO_259000; clear BK252; clear BK258; clear HB; have HO_259000 := n0_; have BK252 := n1_; have BK258 := n2_; have HB := n3_; clear n0_ n1_ n2_ n3_; (try clear hb); (try clear hb2); (try clear hk); (try clear hi); have hcz30_0 : w29.cell? ⟨gb258, 0, none⟩ = some (.slice Ao28 x259000_2.length co28) := (blk_cell BK258.out 0).trans rfl; have hcz30_1 : w29.cell? ⟨gb258, 1, none⟩ = some (.bool x259001_2) := (blk_cell BK258.out 1).trans rfl; have hfz30_0 := blk_frozen BK258.out 0; have hfz30_1 := blk_frozen BK258.out 1) | ((with_reducible refine gate_callee (f := 63) rfl ?_); refine goesL_ (some 34) rfl rfl Try.func63 (by kernel_rfl) rfl #[.agg #[.slice Ao28 x259000_2.length co28, .bool x259001_2], .slice A261_0 (rd_L2 l1 x23_2).length c261_0] rfl (by (try simp only [List.map_toArray, List.map_cons, List.map_nil]); first | done | rfl | (simp only [List.length_drop, List.length_take]; rfl)) ?_; (with_reducible refine (impl_State_moved.calls k2 _ _ x259000_2 x259001_2 _ _ (rd_L2 l1 x23_2) t263 t266 _ ?side1 ?side2 ?side3 ?side4 A24.out).mono ?_); (case side1 => repeat (first | exact (Kd.R_reads' HO_259000.out).2.2 | (with_reducible refine ca' ?_ _) | (with_reducible refine cn' ?_ _) | (with_reducible refine cd' ?_))); (case side2 => exact (Kd.R_reads' HO_259000.out).2.1); (case side3 => repeat (first | exact (Kd.C_below HR261_0.out HB.out) | (with_reducible refine ca' ?_ _) | (with_reducible refine cn' ?_ _) | (with_reducible refine cd' ?_))); (case side4 => exact HC261_0.out); rintro e w31 ⟨v264, rfl, ho0, hb⟩; refine ⟨_, rfl, ?_⟩; have n0_ := am' (Kd.R_elder' (by (with_reducible repeat (first | apply ra' | apply rn' | apply rw')); exact HO_259000.out) (Kd.R_base ho0) hb); have n1_ := am' (Kd.R_lower (Kd.R_new' ho0 (Kd.R_lt (by (with_reducible repeat (first | apply ra' | apply rn' | apply rw')); exact HO_259000.out))) (below_size (by repeat (first | (with_reducible first | exact HB.out | apply ba' | apply bd' | apply be' | refine bs' ?_ GE252.out | refine bs' ?_ GE258.out) | exact HB.out)))); have n2_ := am' (blk_below (g := gb252) (o := .cells #[.slice A0_0 l0_0.length c0_0, .slice A0_1 l0_1.length c0_1, .int .i64 a0_2] 29 (0, 0)) (by (with_reducible repeat (first | refine kn' ?_ _ | refine kd' ?_ | refine ka' ?_ _)); exact BK252.out) hb); have n3_ := am' (blk_below (g := gb258) (o := .cells #[.slice Ao28 x259000_2.length co28, .bool x259001_2] 38 (0, 0)) (by (with_reducible repeat (first | refine kn' ?_ _ | refine kd' ?_ | refine ka' ?_ _)); exact BK258.out) hb); have n4_ := am' (below_step (by repeat (first | (with_reducible first | exact HB.out | apply ba' | apply bd' | apply be' | refine bs' ?_ GE252.out | refine bs' ?_ GE258.out) | exact HB.out)) hb); clear HO_259000; clear BK252; clear BK258; clear HB; have HO_259000 := n0_; have HO265 := n1_; have BK252 := n2_; have BK258 := n3_; have HB := n4_; clear n0_ n1_ n2_ n3_ n4_; (try clear hb); (try clear hb2); (try clear hk); (try clear hi); (try clear ho0); obtain ⟨Ao32, co32, eo32⟩ := Kd.R_slice HO265.out; subst eo32; have hcz33_0 : w31.cell? ⟨gb258, 0, none⟩ = some (.slice Ao28 x259000_2.length co28) := (blk_cell BK258.out 0).trans rfl; have hcz33_1 : w31.cell? ⟨gb258, 1, none⟩ = some (.bool x259001_2) := (blk_cell BK258.out 1).trans rfl; have hfz33_0 := blk_frozen BK258.out 0; have hfz33_1 := blk_frozen BK258.out 1))
          go_roundg k2
          case measure => have := HJ2.out; have := HK2.out; omega
          case rel => exact ⟨(wrap64 (x23_2 + 1)), (t263), (t266), (.slice Ao32 t263.length co32), (by first | rfl | (simp; done) | (simp [*]; done)), H', ⟨by have := HJ2.out; have := HK2.out; omega⟩, ⟨by (with_reducible repeat (first | apply ra' | apply rn' | apply rw')); exact Kd.R_mono (Kd.R_far (p := ⟨gb258, 1, none⟩) (Kd.R_far (p := ⟨gb258, 0, none⟩) (Kd.R_types HO265.out BK258.out (by decide)) (fun _ hk => hk.2) (.slice Ao32 t263.length co32)) (fun _ hk => hk.2) (.bool t266)) (fun _ hk => trivial)⟩, ⟨by (with_reducible repeat (first | refine kn' ?_ _ | refine kd' ?_ | refine ka' ?_ _)); refine blk_far ?_ NB252_258.out _; (with_reducible repeat (first | refine kn' ?_ _ | refine kd' ?_ | refine ka' ?_ _)); refine blk_far ?_ NB252_258.out _; (with_reducible repeat (first | refine kn' ?_ _ | refine kd' ?_ | refine ka' ?_ _)); exact BK252.out⟩, ⟨by (with_reducible repeat (first | refine kn' ?_ _ | refine kd' ?_ | refine ka' ?_ _)); refine blk_put (cs := #[.slice Ao32 t263.length co32, .bool x259001_2]) ?_ 1 _ rfl; (with_reducible repeat (first | refine kn' ?_ _ | refine kd' ?_ | refine ka' ?_ _)); refine blk_put (cs := #[.slice Ao28 x259000_2.length co28, .bool x259001_2]) ?_ 0 _ rfl; (with_reducible repeat (first | refine kn' ?_ _ | refine kd' ?_ | refine ka' ?_ _)); exact BK258.out⟩, ⟨by repeat (first | (with_reducible first | exact HB.out | apply ba' | apply bd' | apply be' | refine bs' ?_ GE252.out | refine bs' ?_ GE258.out) | exact HB.out)⟩⟩
         ·
          replace c23 := Bool.eq_false_iff.mpr c23
          subst c23; have H1 : (some (false, true)) = some (r1, r2) := by rw [if_neg (show ¬ (false = true) by decide)] at H; exact H
          clear H; have H := H1; clear H1; simp only [Option.some.injEq, Prod.mk.injEq] at H
          obtain ⟨rfl, rfl⟩ := H
          have p261 : 0 ≤ (x23_2 : Int) := of_decide_eq_true (by first | (with_reducible assumption) | assumption)
          have q261 : x23_2 < (l1.length : Int) := of_decide_eq_true (by first | (with_reducible assumption) | assumption)
          obtain ⟨ad261, A261_0, c261_0, e261, hx261_0, hl261_0, hi261_0⟩ := at_L2 HR1.out x23_2 p261 q261
          cases e261
          replace hx261_0 := (HB.out.cell (bl' w _ hx261_0)).trans hx261_0
          have HR261_0 := am' hi261_0
          have HC261_0 := am' hl261_0
          clear hi261_0 hl261_0; replace p261 := eq_true p261
          replace q261 := eq_true q261
          have hnb34 := NB252_258.out
          have hnc34 := NB258_252.out
          have hcz35_0 : wr.cell? ⟨gb252, 0, none⟩ = some (.slice A0_0 l0_0.length c0_0) := (blk_cell BK252.out 0).trans rfl
          have hcz35_1 : wr.cell? ⟨gb252, 1, none⟩ = some (.slice A0_1 l0_1.length c0_1) := (blk_cell BK252.out 1).trans rfl
          have hcz35_2 : wr.cell? ⟨gb252, 2, none⟩ = some (.int .i64 a0_2) := (blk_cell BK252.out 2).trans rfl
          have hfz35_0 := blk_frozen BK252.out 0
          have hfz35_1 := blk_frozen BK252.out 1
          have hfz35_2 := blk_frozen BK252.out 2
          have hcz36_0 : wr.cell? ⟨gb258, 0, none⟩ = some (u259000) := (blk_cell BK258.out 0).trans rfl
          have hcz36_1 : wr.cell? ⟨gb258, 1, none⟩ = some (.bool x259001_2) := (blk_cell BK258.out 1).trans rfl
          have hfz36_0 := blk_frozen BK258.out 0
          have hfz36_1 := blk_frozen BK258.out 1
          obtain ⟨Ao37, co37, eo37⟩ := Kd.R_slice HO_259000.out
          subst eo37; go_wp2_with (first | ((with_reducible refine gate_callee (f := 62) rfl ?_); refine goesL_ (some 30) rfl rfl Try.func62 (by kernel_rfl) rfl #[.agg #[.slice A0_0 l0_0.length c0_0, .slice A0_1 l0_1.length c0_1, .int .i64 a0_2], .agg #[.slice Ao37 x259000_2.length co37, .bool x259001_2], .slice A261_0 (rd_L2 l1 x23_2).length c261_0] rfl (by (try simp only [List.map_toArray, List.map_cons, List.map_nil]); first | done | rfl | (simp only [List.length_drop, List.length_take]; rfl)) ?_; (with_reducible refine (impl_Crew_isRide.calls k2 _ _ l0_0 _ _ l0_1 a0_2 _ _ x259000_2 x259001_2 _ _ (rd_L2 l1 x23_2) false _ ?side1 ?side2 ?side3 ?side4 ?side5 ?side6 ?side7 ?side8 A22.out).mono ?_); (case side1 => repeat (first | exact (Kd.C_below HR0_0.out HB.out) | (with_reducible refine ca' ?_ _) | (with_reducible refine cn' ?_ _) | (with_reducible refine cd' ?_))); (case side2 => exact HC0_0.out); (case side3 => repeat (first | exact (Kd.C_below HR0_1.out HB.out) | (with_reducible refine ca' ?_ _) | (with_reducible refine cn' ?_ _) | (with_reducible refine cd' ?_))); (case side4 => exact HC0_1.out); (case side5 => repeat (first | exact (Kd.R_reads' HO_259000.out).2.2 | (with_reducible refine ca' ?_ _) | (with_reducible refine cn' ?_ _) | (with_reducible refine cd' ?_))); (case side6 => exact (Kd.R_reads' HO_259000.out).2.1); (case side7 => repeat (first | exact (Kd.C_below HR261_0.out HB.out) | (with_reducible refine ca' ?_ _) | (with_reducible refine cn' ?_ _) | (with_reducible refine cd' ?_))); (case side8 => exact HC261_0.out); rintro e w38 ⟨rfl, hb⟩; refine ⟨_, rfl, ?_⟩; have n0_ := am' (Kd.R_below (by (with_reducible repeat (first | apply ra' | apply rn' | apply rw')); exact HO_259000.out) hb); have n1_ := am' (blk_below (g := gb252) (o := .cells #[.slice A0_0 l0_0.length c0_0, .slice A0_1 l0_1.length c0_1, .int .i64 a0_2] 29 (0, 0)) (by (with_reducible repeat (first | refine kn' ?_ _ | refine kd' ?_ | refine ka' ?_ _)); exact BK252.out) hb); have n2_ := am' (blk_below (g := gb258) (o := .cells #[.slice Ao37 x259000_2.length co37, .bool x259001_2] 38 (0, 0)) (by (with_reducible repeat (first | refine kn' ?_ _ | refine kd' ?_ | refine ka' ?_ _)); exact BK258.out) hb); have n3_ := am' (below_step (by repeat (first | (with_reducible first | exact HB.out | apply ba' | apply bd' | apply be' | refine bs' ?_ GE252.out | refine bs' ?_ GE258.out) | exact HB.out)) hb); clear HO_259000; clear BK252; clear BK258; clear HB; have HO_259000 := n0_; have BK252 := n1_; have BK258 := n2_; have HB := n3_; clear n0_ n1_ n2_ n3_; (try clear hb); (try clear hb2); (try clear hk); (try clear hi)))
          go_ret2
          exact ⟨by first | rfl | (simp [errW_none, errW_some] <;> rfl) | (simp [*, errW_none, errW_some] <;> rfl), by repeat (first | (with_reducible first | exact HB.out | apply ba' | apply bd' | apply be' | refine bs' ?_ GE252.out | refine bs' ?_ GE258.out) | exact HB.out)⟩
        ·
         rw [if_neg c21] at H; exact absurd H (by simp)
       ·
        rw [if_neg c20] at H; exact absurd H (by simp)
      ·
       rw [if_neg c19] at H; have c19b0 : decide (x23_2 < (l1.length : Int)) = false := decide_eq_false c19
       clear c19; replace H := Option.bind_eq_some_iff.mp H
       obtain ⟨t259, A390, H⟩ := H
       replace H : ((impl_last.f (l0_0.length : Int)).bind fun t260 => (some ((t259 == t260), true))) = some (r1, r2) := H
       have A39 := am' A390
       clear A390; replace H := Option.bind_eq_some_iff.mp H
       obtain ⟨t260, A400, H⟩ := H
       replace H : (some ((t259 == t260), true)) = some (r1, r2) := H
       have A40 := am' A400
       clear A400; simp only [Option.some.injEq, Prod.mk.injEq] at H
       obtain ⟨rfl, rfl⟩ := H
       try go_wp2
       have n0_ := am' (rw' HO_259000.out)
       have n1_ := am' (kd' BK252.out)
       have n2_ := am' (kd' BK258.out)
       have n3_ := am' (be' HB.out)
       clear HO_259000; clear BK252; clear BK258; clear HB; have HO_259000 := n0_; have BK252 := n1_; have BK258 := n2_; have HB := n3_; clear n0_ n1_ n2_ n3_; obtain ⟨Ao42, co42, eo42⟩ := Kd.R_slice HO_259000.out
       (first | subst eo42 | (injection eo42 with f1_ f2_ f3_; have f4_ := f1_.symm; have f5_ := f3_.symm; clear f1_ f2_ f3_; subst f4_; subst f5_))
       refine start_ (n := 9) (S := fun w' => w'.cell? ⟨gb258, 0, none⟩ = some (.slice Ao42 x259000_2.length co42) ∧ w'.cell? ⟨gb258, 1, none⟩ = some (.bool x259001_2) ∧ w'.cell? ⟨gb252, 0, none⟩ = some (.slice A0_0 l0_0.length c0_0) ∧ w'.cell? ⟨gb252, 1, none⟩ = some (.slice A0_1 l0_1.length c0_1) ∧ w'.cell? ⟨gb252, 2, none⟩ = some (.int .i64 a0_2)) (ds := []) #[false, false, false, false, false, false, false, false, false] (by kernel_rfl) rfl rfl ⟨(blk_cell BK258.out 0).trans rfl, (blk_cell BK258.out 1).trans rfl, (blk_cell BK252.out 0).trans rfl, (blk_cell BK252.out 1).trans rfl, (blk_cell BK252.out 2).trans rfl⟩ (fun hHeld => ?_); refine with_tabW impl_IsCrewPlan.tab11 impl_IsCrewPlan.bits11 (fun HT_ HW_ => ?_)
       generalize wr.drew = w41 at HO_259000 BK252 BK258 HB hHeld ⊢
       refine pure_ (i := 2) (N := some 38) (v := ?_) (a' := ?_) #[false, false, true, false, false, false, false, false, false] rfl rfl (any_of HT_.out (by kernel_rfl)) (fun _ _ _ h => h) (Or.inl ⟨by rfl, ?_⟩) ?_ ?_
       rotate_left
       ·
        intro w'; go_simp; with_reducible rfl
       rotate_left
       ·
        simp only [Act.put, sa', sb', sc', i64_w, i32_w]
        rfl
       refine take_ (i := 0) (N := some 36) (v := ?_) (a' := ?_) #[true, false, true, false, false, false, false, false, false] rfl rfl (take_ofW HT_.out HW_.out (by kernel_rfl)) (fun _ _ _ h => h) (Or.inl ⟨by rfl, ?_⟩) hHeld ?_ ?_
       rotate_left
       ·
        rintro w' ⟨s0, s1, s2, s3, s4⟩
        go_simp; with_reducible rfl
       rotate_left
       ·
        simp only [Act.put, sa', sb', sc', i64_w, i32_w]
        rfl
       refine take_ (i := 3) (N := some 39) (v := ?_) (a' := ?_) #[true, false, true, true, false, false, false, false, false] rfl rfl (take_ofW HT_.out HW_.out (by kernel_rfl)) (fun _ _ _ h => h) (Or.inl ⟨by rfl, ?_⟩) hHeld ?_ ?_
       rotate_left
       ·
        rintro w' ⟨s0, s1, s2, s3, s4⟩
        go_simp; with_reducible rfl
       rotate_left
       ·
        simp only [Act.put, sa', sb', sc', i64_w, i32_w]
        rfl
       refine pure_ (i := 4) (N := some 40) (v := ?_) (a' := ?_) #[true, false, true, true, true, false, false, false, false] rfl rfl (any_of HT_.out (by kernel_rfl)) (fun _ _ _ h => h) (Or.inl ⟨by rfl, ?_⟩) ?_ ?_
       rotate_left
       ·
        intro w'; go_simp; with_reducible rfl
       rotate_left
       ·
        simp only [Act.put, sa', sb', sc', i64_w, i32_w]
        rfl
       refine one_ (i := 1) (N := some 37) #[true, true, true, true, true, false, false, false, false] rfl rfl (one_of HT_.out (by kernel_rfl)) (by decide) (fun K hK => ?_)
       refine goes_ Try.func71 (by kernel_rfl) rfl #[.agg #[.slice Ao42 x259000_2.length co42, .bool x259001_2]] (by rfl) rfl rfl (by (try simp only [List.map_toArray, List.map_cons, List.map_nil]); first | done | rfl | (simp only [List.length_drop, List.length_take]; rfl)) ?_
       with_reducible refine (impl_State_code.calls k2 _ _ x259000_2 x259001_2 t259 _ ?side1 ?side2 A39.out).mono ?_
       (case side1 => repeat (first | exact (Kd.R_reads' HO_259000.out).2.2 | (with_reducible refine ca' ?_ _) | (with_reducible refine cn' ?_ _) | (with_reducible refine cd' ?_)))
       (case side2 => exact (Kd.R_reads' HO_259000.out).2.1)
       rintro e w43 ⟨rfl, hb⟩
       refine ⟨_, rfl, ?_⟩
       have n0_ := am' (Kd.R_below (by (with_reducible repeat (first | apply ra' | apply rn' | apply rw')); exact HO_259000.out) hb)
       have n1_ := am' (blk_below (g := gb252) (o := .cells #[.slice A0_0 l0_0.length c0_0, .slice A0_1 l0_1.length c0_1, .int .i64 a0_2] 29 (0, 0)) (by (with_reducible repeat (first | refine kn' ?_ _ | refine kd' ?_ | refine ka' ?_ _)); exact BK252.out) hb)
       have n2_ := am' (blk_below (g := gb258) (o := .cells #[.slice Ao42 x259000_2.length co42, .bool x259001_2] 38 (0, 0)) (by (with_reducible repeat (first | refine kn' ?_ _ | refine kd' ?_ | refine ka' ?_ _)); exact BK258.out) hb)
       have n3_ := am' (below_step (by repeat (first | (with_reducible first | exact HB.out | apply ba' | apply bd' | apply be' | refine bs' ?_ GE252.out | refine bs' ?_ GE258.out) | exact HB.out)) hb)
       clear HO_259000; clear BK252; clear BK258; clear HB; have HO_259000 := n0_; have BK252 := n1_; have BK258 := n2_; have HB := n3_; clear n0_ n1_ n2_ n3_; (try clear hb)
       (try clear hb2)
       (try clear hk)
       (try clear hi)
       refine hK.out _ _ ⟨(blk_cell BK258.out 0).trans rfl, (blk_cell BK258.out 1).trans rfl, (blk_cell BK252.out 0).trans rfl, (blk_cell BK252.out 1).trans rfl, (blk_cell BK252.out 2).trans rfl⟩ (fun hHeld => ?_)
       clear hK K; refine norm_ (a' := ?_) ?_ ?_
       rotate_left
       ·
        show Act.put _ (some 37) _ = _
        simp only [Act.put, sa', sb', sc', i64_w, i32_w]
        rfl
       refine one_ (i := 5) (N := some 41) #[true, true, true, true, true, true, false, false, false] rfl rfl (one_of HT_.out (by kernel_rfl)) (by decide) (fun K hK => ?_)
       refine goes_ Try.func72 (by kernel_rfl) rfl #[.int .i64 (l0_0.length : Int)] (by rfl) rfl rfl (by (try simp only [List.map_toArray, List.map_cons, List.map_nil]); first | done | rfl | (simp only [List.length_drop, List.length_take]; rfl)) ?_
       with_reducible refine (impl_last.calls (l0_0.length : Int) t260 _ A40.out).mono ?_
       rintro e w' ⟨rfl, ⟨nd, rfl⟩⟩
       refine ⟨_, rfl, ?_⟩
       refine hK.out _ _ ⟨(blk_cell BK258.out 0).trans rfl, (blk_cell BK258.out 1).trans rfl, (blk_cell BK252.out 0).trans rfl, (blk_cell BK252.out 1).trans rfl, (blk_cell BK252.out 2).trans rfl⟩ (fun hHeld => ?_)
       clear hK K; refine norm_ (a' := ?_) ?_ ?_
       rotate_left
       ·
        show Act.put _ (some 41) _ = _
        simp only [Act.put, sa', sb', sc', i64_w, i32_w]
        rfl
       refine pure_ (i := 6) (N := some 42) (v := ?_) (a' := ?_) #[true, true, true, true, true, true, true, false, false] rfl rfl (any_of HT_.out (by kernel_rfl)) (fun _ _ _ h => h) (Or.inl ⟨by rfl, ?_⟩) ?_ ?_
       rotate_left
       ·
        intro w'; go_simp; with_reducible rfl
       rotate_left
       ·
        simp only [Act.put, sa', sb', sc', i64_w, i32_w]
        rfl
       refine pure_ (i := 7) (N := some 4) (v := ?_) (a' := ?_) #[true, true, true, true, true, true, true, true, false] rfl rfl (any_of HT_.out (by kernel_rfl)) (fun _ _ _ h => h) (Or.inl ⟨by rfl, ?_⟩) ?_ ?_
       rotate_left
       ·
        intro w'; go_simp; with_reducible rfl
       rotate_left
       ·
        simp only [Act.put, sa', sb', sc', i64_w, i32_w]
        rfl
       refine pure_ (i := 8) (N := some 5) (v := ?_) (a' := ?_) #[true, true, true, true, true, true, true, true, true] rfl rfl (any_of HT_.out (by kernel_rfl)) (fun _ _ _ h => h) (Or.inl ⟨by rfl, ?_⟩) ?_ ?_
       rotate_left
       ·
        intro w'; go_simp; with_reducible rfl
       rotate_left
       ·
        simp only [Act.put, sa', sb', sc', i64_w, i32_w]
        rfl
       refine done_ (done_of HT_.out (by kernel_rfl)) ?_
       try go_wp2
       go_ret2
       exact ⟨by first | rfl | (simp [errW_none, errW_some] <;> rfl) | (simp [*, errW_none, errW_some] <;> rfl), by repeat (first | (with_reducible first | exact HB.out | apply ba' | apply bd' | apply be' | refine bs' ?_ GE252.out | refine bs' ?_ GE258.out) | exact HB.out)⟩
def laws_eqIntSS.l0 : Nat → List (List Int) → List (List Int) → Int → Option (Bool)
 | 0, _, _, _ => none
 | k + 1, x0, x1, x5 => if x5 < (x0.length : Int) then (if 0 ≤ x5 then (if x5 < (x1.length : Int) then ((laws_eqIntS.f k (rd_L2 x0 x5) (rd_L2 x1 x5)).bind fun t269 => (if t269 = true then (laws_eqIntSS.l0 k x0 x1 (wrap64 (x5 + 1))) else (some false))) else (none)) else (none)) else (some true)
def laws_eqIntSS.f (k : Nat) (l0 : List (List Int)) (l1 : List (List Int)) : Option (Bool) := if (l0.length : Int) = (l1.length : Int) then (laws_eqIntSS.l0 k l0 l1 0) else (some false)
set_option maxHeartbeats 8000000 in
set_option maxRecDepth 100000 in
theorem laws_eqIntSS.calls (k : Nat) (A0 : Option Addr) (c0 : Nat) (l0 : List (List Int)) (A1 : Option Addr) (c1 : Nat) (l1 : List (List Int)) (r : Bool) (w : World) (hr0 : Kd.C (Kd.slice 3 (Kd.int .i64)) w A0 l0.length l0) (hc0 : l0.length ≤ c0) (hr1 : Kd.C (Kd.slice 3 (Kd.int .i64)) w A1 l1.length l1) (hc1 : l1.length ≤ c1) (h : laws_eqIntSS.f k l0 l1 = some r) :
  Calls Try.prog 32 #[.slice A0 l0.length c0, .slice A1 l1.length c1] w fun e w' => e = .returned (.bool r) ∧ Drawn0 w w' := by
 have HR0 := am' hr0
 have HC0 := am' hc0
 clear hr0 hc0; have HR1 := am' hr1
 have HC1 := am' hc1
 clear hr1 hc1; have H : (if (l0.length : Int) = (l1.length : Int) then (laws_eqIntSS.l0 k l0 l1 0) else (some false)) = some r := h
 clear h; by_cases c3 : (l0.length : Int) = (l1.length : Int)
 ·
  rw [if_pos c3] at H; have c3b0 : ((l0.length : Int) == (l1.length : Int)) = true := beq_iff_eq.mpr c3
  have c3b1 : ((l0.length : Int) != (l1.length : Int)) = false := bne_eq_false_iff_eq.mpr c3
  have c3b2 : (l0.length == l1.length) = true := by first | simpa using c3 | (simp at c3 ⊢; omega)
  clear c3; have H' := am' H
  clear H; go_enter Try.func32, Try.ntmps32
  go_wp2
  repeat (go_quiet (fail); try go_wp2)
  go_loopg [5] k (fun kq v5 w' => ∃ (x5_1 : Int), v5 = .int .i64 x5_1 ∧ Aside0 (laws_eqIntSS.l0 kq l0 l1 x5_1 = some r) ∧ Aside0 (kq ≤ k) ∧ Drawn0 w w')
  case atStart => exact ⟨(0), (by first | rfl | (simp; done) | (simp [*]; done)), H', ⟨Nat.le_refl _⟩, by repeat (first | exact Drawn0.refl _ | apply Drawn0.step)⟩
  case round =>
   clear H'; try clear c1
   try clear p2
   try clear c3
   try clear c3b0
   try clear c3b1
   try clear c3b2
   obtain ⟨x5_1, rfl, HA, HK1, ⟨m1, rfl⟩⟩ := hrel
   cases gk with
   | zero => exact absurd HA.out (by simp [laws_eqIntSS.l0])
   | succ k1 =>
    have H := HA.out
    clear HA; simp only [laws_eqIntSS.l0] at H
    by_cases c4 : x5_1 < (l0.length : Int)
    ·
     rw [if_pos c4] at H; have c4b0 : decide (x5_1 < (l0.length : Int)) = true := decide_eq_true c4
     clear c4; by_cases c5 : 0 ≤ x5_1
     ·
      rw [if_pos c5] at H; have c5b0 : decide (0 ≤ x5_1) = true := decide_eq_true c5
      clear c5; by_cases c6 : x5_1 < (l1.length : Int)
      ·
       rw [if_pos c6] at H; have c6b0 : decide (x5_1 < (l1.length : Int)) = true := decide_eq_true c6
       clear c6; replace H := Option.bind_eq_some_iff.mp H
       obtain ⟨t269, A70, H⟩ := H
       replace H : (if t269 = true then (laws_eqIntSS.l0 k1 l0 l1 (wrap64 (x5_1 + 1))) else (some false)) = some r := H
       have A7 := am' A70
       clear A70; by_cases c8 : t269 = true
       ·
        subst c8; have H1 : (laws_eqIntSS.l0 k1 l0 l1 (wrap64 (x5_1 + 1))) = some r := by rw [if_pos rfl] at H; exact H
        clear H; have H := H1; clear H1; have H' := am' H
        clear H; have p267 : 0 ≤ (x5_1 : Int) := of_decide_eq_true (by first | (with_reducible assumption) | assumption)
        have q267 : x5_1 < (l0.length : Int) := of_decide_eq_true (by first | (with_reducible assumption) | assumption)
        obtain ⟨ad267, A267_0, c267_0, e267, hx267_0, hl267_0, hi267_0⟩ := at_L2 HR0.out x5_1 p267 q267
        cases e267
        have HR267_0 := am' hi267_0
        have HC267_0 := am' hl267_0
        clear hi267_0 hl267_0; replace p267 := eq_true p267
        replace q267 := eq_true q267
        have p268 : 0 ≤ (x5_1 : Int) := of_decide_eq_true (by first | (with_reducible assumption) | assumption)
        have q268 : x5_1 < (l1.length : Int) := of_decide_eq_true (by first | (with_reducible assumption) | assumption)
        obtain ⟨ad268, A268_0, c268_0, e268, hx268_0, hl268_0, hi268_0⟩ := at_L2 HR1.out x5_1 p268 q268
        cases e268
        have HR268_0 := am' hi268_0
        have HC268_0 := am' hl268_0
        clear hi268_0 hl268_0; replace p268 := eq_true p268
        replace q268 := eq_true q268
        go_wp2_with (first | (go_at_call 18; (with_reducible refine (laws_eqIntS.calls k1 _ _ (rd_L2 l0 x5_1) _ _ (rd_L2 l1 x5_1) true _ ?side1 ?side2 ?side3 ?side4 A7.out).mono ?_); (case side1 => repeat (first | exact HR267_0.out | (with_reducible refine ca' ?_ _) | (with_reducible refine cn' ?_ _) | (with_reducible refine cd' ?_))); (case side2 => exact HC267_0.out); (case side3 => repeat (first | exact HR268_0.out | (with_reducible refine ca' ?_ _) | (with_reducible refine cn' ?_ _) | (with_reducible refine cd' ?_))); (case side4 => exact HC268_0.out); rintro e w' ⟨rfl, ⟨nd, rfl⟩⟩; (try first | exact ⟨rfl, _, World.drewN_drewN _ _ _⟩ | exact ⟨rfl, _, Eq.trans (World.drewN_drewN _ _ _) (congrArg (World.drewN _) (Nat.add_assoc _ _ _))⟩)))
        repeat (go_quiet (first | (go_at_call 18; (with_reducible refine (laws_eqIntS.calls k1 _ _ (rd_L2 l0 x5_1) _ _ (rd_L2 l1 x5_1) true _ ?side1 ?side2 ?side3 ?side4 A7.out).mono ?_); (case side1 => repeat (first | exact HR267_0.out | (with_reducible refine ca' ?_ _) | (with_reducible refine cn' ?_ _) | (with_reducible refine cd' ?_))); (case side2 => exact HC267_0.out); (case side3 => repeat (first | exact HR268_0.out | (with_reducible refine ca' ?_ _) | (with_reducible refine cn' ?_ _) | (with_reducible refine cd' ?_))); (case side4 => exact HC268_0.out); rintro e w' ⟨rfl, ⟨nd, rfl⟩⟩; (try first | exact ⟨rfl, _, World.drewN_drewN _ _ _⟩ | exact ⟨rfl, _, Eq.trans (World.drewN_drewN _ _ _) (congrArg (World.drewN _) (Nat.add_assoc _ _ _))⟩))); try go_wp2_with (first | (go_at_call 18; (with_reducible refine (laws_eqIntS.calls k1 _ _ (rd_L2 l0 x5_1) _ _ (rd_L2 l1 x5_1) true _ ?side1 ?side2 ?side3 ?side4 A7.out).mono ?_); (case side1 => repeat (first | exact HR267_0.out | (with_reducible refine ca' ?_ _) | (with_reducible refine cn' ?_ _) | (with_reducible refine cd' ?_))); (case side2 => exact HC267_0.out); (case side3 => repeat (first | exact HR268_0.out | (with_reducible refine ca' ?_ _) | (with_reducible refine cn' ?_ _) | (with_reducible refine cd' ?_))); (case side4 => exact HC268_0.out); rintro e w' ⟨rfl, ⟨nd, rfl⟩⟩; (try first | exact ⟨rfl, _, World.drewN_drewN _ _ _⟩ | exact ⟨rfl, _, Eq.trans (World.drewN_drewN _ _ _) (congrArg (World.drewN _) (Nat.add_assoc _ _ _))⟩))))
        go_roundg k1
        case measure => have := HK1.out; omega
        case rel => exact ⟨(wrap64 (x5_1 + 1)), (by first | rfl | (simp; done) | (simp [*]; done)), H', ⟨by have := HK1.out; omega⟩, by repeat (first | exact Drawn0.refl _ | apply Drawn0.step)⟩
       ·
        replace c8 := Bool.eq_false_iff.mpr c8
        subst c8; have H1 : (some false) = some r := by rw [if_neg (show ¬ (false = true) by decide)] at H; exact H
        clear H; have H := H1; clear H1; obtain rfl := Option.some.inj H
        have p267 : 0 ≤ (x5_1 : Int) := of_decide_eq_true (by first | (with_reducible assumption) | assumption)
        have q267 : x5_1 < (l0.length : Int) := of_decide_eq_true (by first | (with_reducible assumption) | assumption)
        obtain ⟨ad267, A267_0, c267_0, e267, hx267_0, hl267_0, hi267_0⟩ := at_L2 HR0.out x5_1 p267 q267
        cases e267
        have HR267_0 := am' hi267_0
        have HC267_0 := am' hl267_0
        clear hi267_0 hl267_0; replace p267 := eq_true p267
        replace q267 := eq_true q267
        have p268 : 0 ≤ (x5_1 : Int) := of_decide_eq_true (by first | (with_reducible assumption) | assumption)
        have q268 : x5_1 < (l1.length : Int) := of_decide_eq_true (by first | (with_reducible assumption) | assumption)
        obtain ⟨ad268, A268_0, c268_0, e268, hx268_0, hl268_0, hi268_0⟩ := at_L2 HR1.out x5_1 p268 q268
        cases e268
        have HR268_0 := am' hi268_0
        have HC268_0 := am' hl268_0
        clear hi268_0 hl268_0; replace p268 := eq_true p268
        replace q268 := eq_true q268
        go_wp2_with (first | (go_at_call 18; (with_reducible refine (laws_eqIntS.calls k1 _ _ (rd_L2 l0 x5_1) _ _ (rd_L2 l1 x5_1) false _ ?side1 ?side2 ?side3 ?side4 A7.out).mono ?_); (case side1 => repeat (first | exact HR267_0.out | (with_reducible refine ca' ?_ _) | (with_reducible refine cn' ?_ _) | (with_reducible refine cd' ?_))); (case side2 => exact HC267_0.out); (case side3 => repeat (first | exact HR268_0.out | (with_reducible refine ca' ?_ _) | (with_reducible refine cn' ?_ _) | (with_reducible refine cd' ?_))); (case side4 => exact HC268_0.out); rintro e w' ⟨rfl, ⟨nd, rfl⟩⟩; (try first | exact ⟨rfl, _, World.drewN_drewN _ _ _⟩ | exact ⟨rfl, _, Eq.trans (World.drewN_drewN _ _ _) (congrArg (World.drewN _) (Nat.add_assoc _ _ _))⟩)))
        repeat (go_quiet (first | (go_at_call 18; (with_reducible refine (laws_eqIntS.calls k1 _ _ (rd_L2 l0 x5_1) _ _ (rd_L2 l1 x5_1) false _ ?side1 ?side2 ?side3 ?side4 A7.out).mono ?_); (case side1 => repeat (first | exact HR267_0.out | (with_reducible refine ca' ?_ _) | (with_reducible refine cn' ?_ _) | (with_reducible refine cd' ?_))); (case side2 => exact HC267_0.out); (case side3 => repeat (first | exact HR268_0.out | (with_reducible refine ca' ?_ _) | (with_reducible refine cn' ?_ _) | (with_reducible refine cd' ?_))); (case side4 => exact HC268_0.out); rintro e w' ⟨rfl, ⟨nd, rfl⟩⟩; (try first | exact ⟨rfl, _, World.drewN_drewN _ _ _⟩ | exact ⟨rfl, _, Eq.trans (World.drewN_drewN _ _ _) (congrArg (World.drewN _) (Nat.add_assoc _ _ _))⟩))); try go_wp2_with (first | (go_at_call 18; (with_reducible refine (laws_eqIntS.calls k1 _ _ (rd_L2 l0 x5_1) _ _ (rd_L2 l1 x5_1) false _ ?side1 ?side2 ?side3 ?side4 A7.out).mono ?_); (case side1 => repeat (first | exact HR267_0.out | (with_reducible refine ca' ?_ _) | (with_reducible refine cn' ?_ _) | (with_reducible refine cd' ?_))); (case side2 => exact HC267_0.out); (case side3 => repeat (first | exact HR268_0.out | (with_reducible refine ca' ?_ _) | (with_reducible refine cn' ?_ _) | (with_reducible refine cd' ?_))); (case side4 => exact HC268_0.out); rintro e w' ⟨rfl, ⟨nd, rfl⟩⟩; (try first | exact ⟨rfl, _, World.drewN_drewN _ _ _⟩ | exact ⟨rfl, _, Eq.trans (World.drewN_drewN _ _ _) (congrArg (World.drewN _) (Nat.add_assoc _ _ _))⟩))))
        go_ret
        exact ⟨by first | rfl | (simp; done) | (simp [*]; done), by repeat (first | exact Drawn0.refl _ | apply Drawn0.step)⟩
      ·
       rw [if_neg c6] at H; exact absurd H (by simp)
     ·
      rw [if_neg c5] at H; exact absurd H (by simp)
    ·
     rw [if_neg c4] at H; have c4b0 : decide (x5_1 < (l0.length : Int)) = false := decide_eq_false c4
     clear c4; obtain rfl := Option.some.inj H
     go_wp2
     repeat (go_quiet (fail); try go_wp2)
     go_ret
     exact ⟨by first | rfl | (simp; done) | (simp [*]; done), by repeat (first | exact Drawn0.refl _ | apply Drawn0.step)⟩
 ·
  rw [if_neg c3] at H; have c3b0 : ((l0.length : Int) == (l1.length : Int)) = false := beq_eq_false_iff_ne.mpr c3
  have c3b1 : ((l0.length : Int) != (l1.length : Int)) = true := bne_iff_ne.mpr c3
  have c3b2 : (l0.length == l1.length) = false := by first | simpa using c3 | (simp at c3 ⊢; omega)
  obtain rfl := Option.some.inj H
  go_enter Try.func32, Try.ntmps32
  go_wp2
  repeat (go_quiet (fail); try go_wp2)
  go_ret
  exact ⟨by first | rfl | (simp; done) | (simp [*]; done), by repeat (first | exact Drawn0.refl _ | apply Drawn0.step)⟩
end Go.Proofs.Ytikjdmiohpdnaaa.C2
