/- The law FnCouplesCalmOfAll: for every input the call returns true, and each argument reads afterwards as it read before. No condition. -/
import Derived.Test.YtabhhkiipilghaaRows
import Derived.Test.YtabhhkiipilghaaC2zx18
import Derived.Test.YtabhhkiipilghaaC2zQQ
import Derived.Test.YtabhhkiipilghaaC2zH1
import Derived.WalkKit
import Derived.ProofKit
import Derived.OpenShut
import Derived.ShutString
import Derived.ChangeOld
import Derived.Below
import Derived.SizedLaws
import Derived.Carry
import Derived.Lib.SmallJoins
namespace Go.Proofs.Ytabhhkiipilghaa.fnCouplesCalmOfAll
open Go.ChangeShapes Go.WideShapes Go.ChangeAt Go.RowKit Go.Proofs.Ytabhhkiipilghaa.H
open Go.ChangeMaps (open_string shut_string)
set_option linter.unusedVariables false
theorem own : ownKnob Try.prog.godebug = none := by kernel_rfl
theorem laidOut : laidOutB Try.prog = true := by kernel_rfl
set_option maxHeartbeats 1000000 in
set_option maxRecDepth 100000 in
theorem lifted (os : Os) (started : os.Started) (H : Type) (enc : TypeId × Value → H) :
    ReturnsInHanded {} Try.checked os 4 .any (Rows.fnCouplesCalmOfAllSpec.pre6 enc Try.prog Try.f4 Rows.fnCouplesCalmOfAllRow.domain false) (Rows.fnCouplesCalmOfAllSpec.post enc Try.prog Try.f4 false true false false) := by
  refine returnsInHanded_of_change_sized (C := Try.checked) own started (by kernel_rfl) Try.func4
    (ChangeSpec.witness6 (enc := enc) (C := Try.checked) false ⟨#[], #[.agg #[.int .i64 0, .int .i64 0], .agg #[.slice none 0 0, .bool false], .agg #[.int .i64 0, .int .i64 0], .agg #[.slice none 0 0, .bool false], .slice none 0 0, .int .i64 0, .slice none 0 0], []⟩ 8 (by kernel_rfl) (by kernel_rfl) (by kernel_rfl) (by kernel_rfl)) ?_
  intro W base args ds gs before hval0 hW hcnd hsz0 _
  have hval : ∀ (j : Nat) t v, Try.f4.params[j]? = some t → args[j]? = some v → Value.okWide Try.prog W .any base t v := hval0
  have hW' := hW
  obtain ⟨p, q, hA0, hV, rfl, hfz, hnd⟩ := hW
  have hA : DataW.TrodAll enc Try.prog W 0 (fun _ => true) true Try.f4.params.toList args.toList ds p := hA0
  rw [Try.params4] at hA hval
  obtain ⟨v0, vs0, d0, ds0, p0, q0, hargs, rfl, rfl, h0, r0⟩ := trodAll_cons hA
  obtain ⟨v1, vs1, d1, ds1, p1, q1, rfl, rfl, rfl, h1, r1⟩ := trodAll_cons r0
  obtain ⟨v2, vs2, d2, ds2, p2, q2, rfl, rfl, rfl, h2, r2⟩ := trodAll_cons r1
  obtain ⟨v3, vs3, d3, ds3, p3, q3, rfl, rfl, rfl, h3, r3⟩ := trodAll_cons r2
  obtain ⟨v4, vs4, d4, ds4, p4, q4, rfl, rfl, rfl, h4, r4⟩ := trodAll_cons r3
  obtain ⟨v5, vs5, d5, ds5, p5, q5, rfl, rfl, rfl, h5, r5⟩ := trodAll_cons r4
  obtain ⟨v6, vs6, d6, ds6, p6, q6, rfl, rfl, rfl, h6, r6⟩ := trodAll_cons r5
  obtain ⟨rfl, rfl, rfl⟩ := trodAll_nil r6
  obtain rfl : args = #[v0, v1, v2, v3, v4, v5, v6] := by cases args; simp_all
  obtain ⟨rfl, rfl⟩ := trodVars_none hV
  have k0 := h0
  have lt0 : ∀ x ∈ p0, x.block < W.heap.size := by obtain ⟨m, hm⟩ := k0; exact DataW.trod_lt m _ _ _ hm
  obtain ⟨v0_0, v0_1, y0_0, y0_1, nn0, rfl, _, _, t0_0, t0_1⟩ := Joins.open_agg2 Try.underlying32 (by kernel_rfl) (by kernel_rfl) (hval 0 32 v0 rfl rfl) h0
  obtain ⟨a0_0, rfl, g0_0⟩ := open_one Try.underlying3 t0_0
  obtain ⟨a0_1, rfl, g0_1⟩ := open_one Try.underlying3 t0_1
  have k1 := h1
  have lt1 : ∀ x ∈ p1, x.block < W.heap.size := by obtain ⟨m, hm⟩ := k1; exact DataW.trod_lt m _ _ _ hm
  obtain ⟨v1_0, v1_1, y1_0, y1_1, nn1, rfl, _, _, t1_0, t1_1⟩ := Joins.open_agg2 Try.underlying35 (by kernel_rfl) (by kernel_rfl) (hval 1 35 v1 rfl rfl) h1
  obtain ⟨A1_0, c1_0, l1_0, rfl, hc1_0, hr1_0, g1_0⟩ := open_row (opens_slice Try.underlying33 (by kernel_rfl) rfl (opens_bool Try.underlying4)) t1_0
  obtain ⟨a1_1, rfl⟩ := open_oneb Try.underlying4 t1_1
  have k2 := h2
  have lt2 : ∀ x ∈ p2, x.block < W.heap.size := by obtain ⟨m, hm⟩ := k2; exact DataW.trod_lt m _ _ _ hm
  obtain ⟨v2_0, v2_1, y2_0, y2_1, nn2, rfl, _, _, t2_0, t2_1⟩ := Joins.open_agg2 Try.underlying32 (by kernel_rfl) (by kernel_rfl) (hval 2 32 v2 rfl rfl) h2
  obtain ⟨a2_0, rfl, g2_0⟩ := open_one Try.underlying3 t2_0
  obtain ⟨a2_1, rfl, g2_1⟩ := open_one Try.underlying3 t2_1
  have k3 := h3
  have lt3 : ∀ x ∈ p3, x.block < W.heap.size := by obtain ⟨m, hm⟩ := k3; exact DataW.trod_lt m _ _ _ hm
  obtain ⟨v3_0, v3_1, y3_0, y3_1, nn3, rfl, _, _, t3_0, t3_1⟩ := Joins.open_agg2 Try.underlying35 (by kernel_rfl) (by kernel_rfl) (hval 3 35 v3 rfl rfl) h3
  obtain ⟨A3_0, c3_0, l3_0, rfl, hc3_0, hr3_0, g3_0⟩ := open_row (opens_slice Try.underlying33 (by kernel_rfl) rfl (opens_bool Try.underlying4)) t3_0
  obtain ⟨a3_1, rfl⟩ := open_oneb Try.underlying4 t3_1
  have k4 := h4
  have lt4 : ∀ x ∈ p4, x.block < W.heap.size := by obtain ⟨m, hm⟩ := k4; exact DataW.trod_lt m _ _ _ hm
  obtain ⟨b4, len4, cap4, rfl⟩ := okWide_slice Try.underlying28 (hval 4 28 v4 rfl rfl)
  obtain ⟨fu4, hf4⟩ := h4
  obtain ⟨A4, c4, l4, e4, hc4, hr4, g4⟩ := open_row (opens_slice Try.underlying28 (by kernel_rfl) rfl (opens_int Try.underlying3)) (show DataW.trod enc Try.prog W 0 (fun _ => true) true fu4 28 [.slice b4 len4 cap4] = some _ from hf4)
  obtain ⟨rfl, rfl, rfl⟩ : b4 = A4 ∧ len4 = l4.length ∧ cap4 = c4 := by injection e4 with e1 e2 e3; exact ⟨e1, e2, e3⟩
  have k5 := h5
  have lt5 : ∀ x ∈ p5, x.block < W.heap.size := by obtain ⟨m, hm⟩ := k5; exact DataW.trod_lt m _ _ _ hm
  obtain ⟨a5, rfl, rfl, rfl, w5⟩ := open_int Try.underlying3 (hval 5 3 v5 rfl rfl) h5
  have g5 := goodI_of_wf w5
  have k6 := h6
  have lt6 : ∀ x ∈ p6, x.block < W.heap.size := by obtain ⟨m, hm⟩ := k6; exact DataW.trod_lt m _ _ _ hm
  obtain ⟨b6, len6, cap6, rfl⟩ := okWide_slice Try.underlying28 (hval 6 28 v6 rfl rfl)
  obtain ⟨fu6, hf6⟩ := h6
  obtain ⟨A6, c6, l6, e6, hc6, hr6, g6⟩ := open_row (opens_slice Try.underlying28 (by kernel_rfl) rfl (opens_int Try.underlying3)) (show DataW.trod enc Try.prog W 0 (fun _ => true) true fu6 28 [.slice b6 len6 cap6] = some _ from hf6)
  obtain ⟨rfl, rfl, rfl⟩ : b6 = A6 ∧ len6 = l6.length ∧ cap6 = c6 := by injection e6 with e1 e2 e3; exact ⟨e1, e2, e3⟩
  clear hA0 hval0 hsz0
  obtain ⟨k, hP⟩ := Go.Proofs.Ytabhhkiipilghaa.Pure.FnCouplesCalmOfAll_pure a0_0 a0_1 l1_0 a1_1 a2_0 a2_1 l3_0 a3_1 l4 a5 l6 g0_0 g0_1 g1_0 g2_0 g2_1 g3_0 g4 g5 g6
  refine (Go.Proofs.Ytabhhkiipilghaa.C2.laws_FnCouplesCalmOfAll.calls k a0_0 a0_1 _ _ l1_0 a1_1 a2_0 a2_1 _ _ l3_0 a3_1 _ _ l4 a5 _ _ l6 true W hr1_0 hc1_0 hr3_0 hc3_0 hr4 hc4 hr6 hc6 hP ⟨rfl⟩).mono fun e W' ⟨he, bel⟩ => ?_
  subst he
  exact ⟨_, rfl, _, _, _, [], _, [], hW', trodAll_mk1 (shut_bool Try.underlying4 _), (trodAll_cons_mk (Below.trod laidOut (by kernel_rfl) (of_decide_eq_true (by kernel_rfl)) k0 bel lt0) (trodAll_cons_mk (Below.trod laidOut (by kernel_rfl) (of_decide_eq_true (by kernel_rfl)) k1 bel lt1) (trodAll_cons_mk (Below.trod laidOut (by kernel_rfl) (of_decide_eq_true (by kernel_rfl)) k2 bel lt2) (trodAll_cons_mk (Below.trod laidOut (by kernel_rfl) (of_decide_eq_true (by kernel_rfl)) k3 bel lt3) (trodAll_cons_mk (Below.trod laidOut (by kernel_rfl) (of_decide_eq_true (by kernel_rfl)) k4 bel lt4) (trodAll_cons_mk (shut_int Try.underlying3 w5) (trodAll_cons_mk (Below.trod laidOut (by kernel_rfl) (of_decide_eq_true (by kernel_rfl)) k6 bel lt6) trodAll_mk0))))))), rfl, bel.frame _, fun h => by cases h⟩
theorem over : Rows.fnCouplesCalmOfAllRow.holds Try.pinned (OpenSpec.ofChange Rows.fnCouplesCalmOfAllSpec) :=
  OpenClaim.holds_of_wide 4 Try.f4 rfl rfl rfl rfl rfl rfl rfl ⟨rfl, rfl, rfl, rfl, rfl⟩ rfl rfl rfl rfl rfl (by kernel_rfl) Try.func4 (by kernel_rfl)
    (of_decide_eq_true (by kernel_rfl)) (by unfold Func.isWrapper; first | (rw [if_pos (by decide +kernel)]; kernel_rfl) | (rw [if_neg (by decide +kernel)]; exact ⟨rfl, rfl⟩))
    (fun os started H enc _ => lifted os started H enc)
theorem proved : Rows.FnCouplesCalmOfAllSaid := over
end Go.Proofs.Ytabhhkiipilghaa.fnCouplesCalmOfAll
namespace Go.Proofs.Ytabhhkiipilghaa
/-- The row, under a short name, for the claim. -/
theorem fnCouplesCalmOfAll_holds : Rows.FnCouplesCalmOfAllSaid := fnCouplesCalmOfAll.proved
#print axioms fnCouplesCalmOfAll_holds
end Go.Proofs.Ytabhhkiipilghaa
