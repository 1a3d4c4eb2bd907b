/- The law FnExactRoundsAfter: for every input the call returns true, and each argument reads afterwards as it read before. No condition. -/
import Derived.Test.YtdomojenlofieaaRows
import Derived.Test.YtdomojenlofieaaC2zQQ
import Derived.Test.YtdomojenlofieaaC2zH1
import Derived.WalkKit
import Derived.ProofKit
import Derived.OpenShut
import Derived.ShutString
import Derived.ChangeOld
import Derived.Below
import Derived.SizedLaws
import Derived.Carry
import Derived.Lib.SmallJoins
namespace Go.Proofs.Ytdomojenlofieaa.fnExactRoundsAfter
open Go.ChangeShapes Go.WideShapes Go.ChangeAt Go.RowKit Go.Proofs.Ytdomojenlofieaa.H
open Go.ChangeMaps (open_string shut_string)
set_option linter.unusedVariables false
theorem own : ownKnob Try.prog.godebug = none := by kernel_rfl
theorem laidOut : laidOutB Try.prog = true := by kernel_rfl
set_option maxHeartbeats 1000000 in
set_option maxRecDepth 100000 in
theorem lifted (os : Os) (started : os.Started) (H : Type) (enc : TypeId × Value → H) :
    ReturnsInHanded {} Try.checked os 3 .any (Rows.fnExactRoundsAfterSpec.pre6 enc Try.prog Try.f3 Rows.fnExactRoundsAfterRow.domain false) (Rows.fnExactRoundsAfterSpec.post enc Try.prog Try.f3 false true false false) := by
  refine returnsInHanded_of_change_sized (C := Try.checked) own started (by kernel_rfl) Try.func3
    (ChangeSpec.witness6 (enc := enc) (C := Try.checked) false ⟨#[], #[.agg #[.slice none 0 0, .int .i64 0, .int .i64 0], .agg #[.slice none 0 0, .int .i64 0], .slice none 0 0], []⟩ 8 (by kernel_rfl) (by kernel_rfl) (by kernel_rfl) (by kernel_rfl)) ?_
  intro W base args ds gs before hval0 hW hcnd hsz0 _
  have hval : ∀ (j : Nat) t v, Try.f3.params[j]? = some t → args[j]? = some v → Value.okWide Try.prog W .any base t v := hval0
  have hW' := hW
  obtain ⟨p, q, hA0, hV, rfl, hfz, hnd⟩ := hW
  have hA : DataW.TrodAll enc Try.prog W 0 (fun _ => true) true Try.f3.params.toList args.toList ds p := hA0
  rw [Try.params3] at hA hval
  obtain ⟨v0, vs0, d0, ds0, p0, q0, hargs, rfl, rfl, h0, r0⟩ := trodAll_cons hA
  obtain ⟨v1, vs1, d1, ds1, p1, q1, rfl, rfl, rfl, h1, r1⟩ := trodAll_cons r0
  obtain ⟨v2, vs2, d2, ds2, p2, q2, rfl, rfl, rfl, h2, r2⟩ := trodAll_cons r1
  obtain ⟨rfl, rfl, rfl⟩ := trodAll_nil r2
  obtain rfl : args = #[v0, v1, v2] := by cases args; simp_all
  obtain ⟨rfl, rfl⟩ := trodVars_none hV
  have k0 := h0
  have lt0 : ∀ x ∈ p0, x.block < W.heap.size := by obtain ⟨m, hm⟩ := k0; exact DataW.trod_lt m _ _ _ hm
  obtain ⟨v0_0, v0_1, v0_2, y0_0, y0_1, y0_2, nn0, rfl, _, _, t0_0, t0_1, t0_2⟩ := Joins.open_agg3 Try.underlying24 (by kernel_rfl) (by kernel_rfl) (hval 0 24 v0 rfl rfl) h0
  obtain ⟨A0_0, c0_0, l0_0, rfl, hc0_0, hr0_0, g0_0⟩ := open_row (opens_slice Try.underlying22 (by kernel_rfl) rfl (opens_int Try.underlying3)) t0_0
  obtain ⟨a0_1, rfl, g0_1⟩ := open_one Try.underlying3 t0_1
  obtain ⟨a0_2, rfl, g0_2⟩ := open_one Try.underlying3 t0_2
  have k1 := h1
  have lt1 : ∀ x ∈ p1, x.block < W.heap.size := by obtain ⟨m, hm⟩ := k1; exact DataW.trod_lt m _ _ _ hm
  obtain ⟨v1_0, v1_1, y1_0, y1_1, nn1, rfl, _, _, t1_0, t1_1⟩ := Joins.open_agg2 Try.underlying27 (by kernel_rfl) (by kernel_rfl) (hval 1 27 v1 rfl rfl) h1
  obtain ⟨A1_0, c1_0, l1_0, rfl, hc1_0, hr1_0, g1_0⟩ := open_row (opens_slice Try.underlying25 (by kernel_rfl) rfl (opens_bool Try.underlying4)) t1_0
  obtain ⟨a1_1, rfl, g1_1⟩ := open_one Try.underlying3 t1_1
  have k2 := h2
  have lt2 : ∀ x ∈ p2, x.block < W.heap.size := by obtain ⟨m, hm⟩ := k2; exact DataW.trod_lt m _ _ _ hm
  obtain ⟨b2, len2, cap2, rfl⟩ := okWide_slice Try.underlying28 (hval 2 28 v2 rfl rfl)
  obtain ⟨fu2, hf2⟩ := h2
  obtain ⟨A2, c2, l2, e2, hc2, hr2, g2⟩ := open_row (opens_slice Try.underlying28 (by kernel_rfl) rfl (opens_slice Try.underlying47 (by kernel_rfl) rfl (opens_slice Try.underlying22 (by kernel_rfl) rfl (opens_int Try.underlying3)))) (show DataW.trod enc Try.prog W 0 (fun _ => true) true fu2 28 [.slice b2 len2 cap2] = some _ from hf2)
  obtain ⟨rfl, rfl, rfl⟩ : b2 = A2 ∧ len2 = l2.length ∧ cap2 = c2 := by injection e2 with e1 e2 e3; exact ⟨e1, e2, e3⟩
  clear hA0 hval0 hsz0
  refine (Go.Proofs.Ytdomojenlofieaa.Pure.FnExactRoundsAfter_all _ _ l0_0 a0_1 a0_2 _ _ l1_0 a1_1 _ _ l2 W hr0_0 hc0_0 hr1_0 hc1_0 hr2 hc2 g0_0 g0_1 g0_2 g1_0 g1_1 g2).mono fun e W' ⟨he, bel⟩ => ?_
  subst he
  exact ⟨_, rfl, _, _, _, [], _, [], hW', trodAll_mk1 (shut_bool Try.underlying4 _), (trodAll_cons_mk (Below.trod laidOut (by kernel_rfl) (of_decide_eq_true (by kernel_rfl)) k0 bel lt0) (trodAll_cons_mk (Below.trod laidOut (by kernel_rfl) (of_decide_eq_true (by kernel_rfl)) k1 bel lt1) (trodAll_cons_mk (Below.trod laidOut (by kernel_rfl) (of_decide_eq_true (by kernel_rfl)) k2 bel lt2) trodAll_mk0))), rfl, bel.frame _, fun h => by cases h⟩
theorem over : Rows.fnExactRoundsAfterRow.holds Try.pinned (OpenSpec.ofChange Rows.fnExactRoundsAfterSpec) :=
  OpenClaim.holds_of_wide 3 Try.f3 rfl rfl rfl rfl rfl rfl rfl ⟨rfl, rfl, rfl, rfl, rfl⟩ rfl rfl rfl rfl rfl (by kernel_rfl) Try.func3 (by kernel_rfl)
    (of_decide_eq_true (by kernel_rfl)) (by unfold Func.isWrapper; first | (rw [if_pos (by decide +kernel)]; kernel_rfl) | (rw [if_neg (by decide +kernel)]; exact ⟨rfl, rfl⟩))
    (fun os started H enc _ => lifted os started H enc)
theorem proved : Rows.FnExactRoundsAfterSaid := over
end Go.Proofs.Ytdomojenlofieaa.fnExactRoundsAfter
namespace Go.Proofs.Ytdomojenlofieaa
/-- The row, under a short name, for the claim. -/
theorem fnExactRoundsAfter_holds : Rows.FnExactRoundsAfterSaid := fnExactRoundsAfter.proved
#print axioms fnExactRoundsAfter_holds
end Go.Proofs.Ytdomojenlofieaa
