-- printed by a program of this repo over the kit's printer
import Derived.Test.YtpobeakggacdpaaC1x0
import Derived.Test.YtpobeakggacdpaaC1x1
import Derived.Test.YtpobeakggacdpaaC1x2
import Derived.Test.YtpobeakggacdpaaC1x3
namespace Go.Proofs.Ytpobeakggacdpaa.C1
open Go.RowKit Go.Proofs.YtpobeakggacdpaaW.PrintWords Go.Proofs.YtpobeakggacdpaaW.PrintLast Go.Proofs.YtpobeakggacdpaaW.PrintMore Go.Proofs.Ytpobeakggacdpaa.H
attribute [local go_sem] max2_int min2_int max_two min_two max_three min_three max_four min_four   -- for this text's walks alone
set_option linter.unusedVariables false
set_option linter.unusedSimpArgs false

/-! ### laws_FnExactFirstCamp: function 3 -/
mutual
def laws_FnExactFirstCamp.j0 : Nat → List Int → Int → Int → Option (Bool)
  | 0, _, _, _ => none
  | k + 1, x165000, x165001, x165002 => (laws_toNight.f k x165000 x165001 x165002).bind fun bt166 => ((spec_FirstCamp.f k bt166.1 bt166.2.1 bt166.2.2).bind fun bt171 => ((laws_toNight.f k x165000 x165001 x165002).bind fun bt177 => ((impl_FirstCamp.f bt177.1 bt177.2.1 bt177.2.2).bind fun bt183 => ((laws_eqCamp.f k bt183.1 bt183.2.1 bt171.1 bt171.2.1).bind fun t189 => (if t189 = true then (laws_FnExactFirstCamp.j1 k bt171.2.2 bt183.2.2 (bt183.2.2 != bt171.2.2) x165000 x165001 x165002 bt171.1 bt171.2.1 bt177.1 bt177.2.1 bt177.2.2 bt183.1 bt183.2.1) else (laws_FnExactFirstCamp.j1 k bt171.2.2 bt183.2.2 true x165000 x165001 x165002 bt171.1 bt171.2.1 bt177.1 bt177.2.1 bt177.2.2 bt183.1 bt183.2.1))))))
def laws_FnExactFirstCamp.j1 : Nat → Bool → Bool → Bool → List Int → Int → Int → List Bool → Int → List Int → Int → Int → List Bool → Int → Option (Bool)
  | 0, _, _, _, _, _, _, _, _, _, _, _, _, _ => none
  | k + 1, x5, x8, x40, x165000, x165001, x165002, x177000, x177001, x183000, x183001, x183002, x189000, x189001 => if x40 = true then (some false) else (laws_FnExactFirstCamp.j2 k x5 x8 x165000 x165001 x165002 x177000 x177001 x183000 x183001 x183002 x189000 x189001)
def laws_FnExactFirstCamp.j2 : Nat → Bool → Bool → List Int → Int → Int → List Bool → Int → List Int → Int → Int → List Bool → Int → Option (Bool)
  | 0, _, _, _, _, _, _, _, _, _, _, _, _ => none
  | k + 1, x5, x8, x165000, x165001, x165002, x177000, x177001, x183000, x183001, x183002, x189000, x189001 => (laws_toNight.f k x165000 x165001 x165002).bind fun bt190 => ((laws_eqNight.f k x183000 x183001 x183002 bt190.1 bt190.2.1 bt190.2.2).bind fun t195 => (if t195 = true then (laws_FnExactFirstCamp.j3 k x5 x8 x165000 x165001 x165002 x177000 x177001 x183000 x183001 x183002 x189000 x189001) else (some false)))
def laws_FnExactFirstCamp.j3 : Nat → Bool → Bool → List Int → Int → Int → List Bool → Int → List Int → Int → Int → List Bool → Int → Option (Bool)
  | 0, _, _, _, _, _, _, _, _, _, _, _, _ => none
  | k + 1, x5, x8, x165000, x165001, x165002, x177000, x177001, x183000, x183001, x183002, x189000, x189001 => (laws_markNight.f k x183000 x183001 x183002 1).bind fun bt196 => (if bt196.1 < 0 then (laws_FnExactFirstCamp.j4 k x5 true x165000 x165001 x165002 x177000 x177001 x189000 x189001) else ((laws_eqCamp.f k x189000 x189001 x177000 x177001).bind fun t198 => (if t198 = true then (laws_FnExactFirstCamp.j4 k x5 (x8 != x5) x165000 x165001 x165002 x177000 x177001 x189000 x189001) else (laws_FnExactFirstCamp.j4 k x5 true x165000 x165001 x165002 x177000 x177001 x189000 x189001))))
def laws_FnExactFirstCamp.j4 : Nat → Bool → Bool → List Int → Int → Int → List Bool → Int → List Bool → Int → Option (Bool)
  | 0, _, _, _, _, _, _, _, _, _ => none
  | k + 1, x5, x61, x165000, x165001, x165002, x177000, x177001, x189000, x189001 => if x61 = true then (some false) else (laws_FnExactFirstCamp.j5 k x5 x165000 x165001 x165002 x177000 x177001 x189000 x189001)
def laws_FnExactFirstCamp.j5 : Nat → Bool → List Int → Int → Int → List Bool → Int → List Bool → Int → Option (Bool)
  | 0, _, _, _, _, _, _, _, _ => none
  | k + 1, x5, x165000, x165001, x165002, x177000, x177001, x189000, x189001 => (laws_markCamp.f k x189000 x189001 1).bind fun bt199 => ((laws_heldCamp.f k bt199.2 x189001 1).bind fun t201 => (if t201 < 0 then (some false) else (laws_FnExactFirstCamp.j6 k x5 bt199.1 t201 x165000 x165001 x165002 x177000 x177001 bt199.2 x189001)))
def laws_FnExactFirstCamp.j6 : Nat → Bool → Int → Int → List Int → Int → Int → List Bool → Int → List Bool → Int → Option (Bool)
  | 0, _, _, _, _, _, _, _, _, _, _ => none
  | k + 1, x5, x10, x11, x165000, x165001, x165002, x177000, x177001, x189000, x189001 => if x11 = x10 then (laws_FnExactFirstCamp.j7 k x5 x10 x165000 x165001 x165002 x177000 x177001 x189000 x189001) else (some false)
def laws_FnExactFirstCamp.j7 : Nat → Bool → Int → List Int → Int → Int → List Bool → Int → List Bool → Int → Option (Bool)
  | 0, _, _, _, _, _, _, _, _, _ => none
  | k + 1, x5, x10, x165000, x165001, x165002, x177000, x177001, x189000, x189001 => (laws_toNight.f k x165000 x165001 x165002).bind fun bt202 => ((impl_FirstCamp.f bt202.1 bt202.2.1 bt202.2.2).bind fun bt207 => ((laws_eqCamp.f k bt207.1 bt207.2.1 x177000 x177001).bind fun t213 => (if t213 = true then (laws_FnExactFirstCamp.j8 k x10 (bt207.2.2 != x5) x189000 x189001) else (laws_FnExactFirstCamp.j8 k x10 true x189000 x189001))))
def laws_FnExactFirstCamp.j8 : Nat → Int → Bool → List Bool → Int → Option (Bool)
  | 0, _, _, _, _ => none
  | k + 1, x10, x87, x189000, x189001 => if x87 = true then (some false) else (laws_FnExactFirstCamp.j9 k x10 x189000 x189001)
def laws_FnExactFirstCamp.j9 : Nat → Int → List Bool → Int → Option (Bool)
  | 0, _, _, _ => none
  | k + 1, x10, x189000, x189001 => (laws_heldCamp.f k x189000 x189001 1).bind fun t214 => (if t214 < 0 then (some false) else (if t214 = x10 then (some true) else (some false)))
end
def laws_FnExactFirstCamp.f (k : Nat) (l0_0 : List Int) (a0_1 : Int) (a0_2 : Int) : Option (Bool) := (laws_szNight.f l0_0 a0_1 a0_2 1048576).bind fun t165 => (if t165 < 0 then (some true) else (laws_FnExactFirstCamp.j0 k l0_0 a0_1 a0_2))
theorem laws_FnExactFirstCamp.mono_l : ∀ k, (∀ y0 y1 y2, LeO (laws_FnExactFirstCamp.j0 k y0 y1 y2) (laws_FnExactFirstCamp.j0 (k + 1) y0 y1 y2)) ∧ (∀ y0 y1 y2 y3 y4 y5 y6 y7 y8 y9 y10 y11 y12, LeO (laws_FnExactFirstCamp.j1 k y0 y1 y2 y3 y4 y5 y6 y7 y8 y9 y10 y11 y12) (laws_FnExactFirstCamp.j1 (k + 1) y0 y1 y2 y3 y4 y5 y6 y7 y8 y9 y10 y11 y12)) ∧ (∀ y0 y1 y2 y3 y4 y5 y6 y7 y8 y9 y10 y11, LeO (laws_FnExactFirstCamp.j2 k y0 y1 y2 y3 y4 y5 y6 y7 y8 y9 y10 y11) (laws_FnExactFirstCamp.j2 (k + 1) y0 y1 y2 y3 y4 y5 y6 y7 y8 y9 y10 y11)) ∧ (∀ y0 y1 y2 y3 y4 y5 y6 y7 y8 y9 y10 y11, LeO (laws_FnExactFirstCamp.j3 k y0 y1 y2 y3 y4 y5 y6 y7 y8 y9 y10 y11) (laws_FnExactFirstCamp.j3 (k + 1) y0 y1 y2 y3 y4 y5 y6 y7 y8 y9 y10 y11)) ∧ (∀ y0 y1 y2 y3 y4 y5 y6 y7 y8, LeO (laws_FnExactFirstCamp.j4 k y0 y1 y2 y3 y4 y5 y6 y7 y8) (laws_FnExactFirstCamp.j4 (k + 1) y0 y1 y2 y3 y4 y5 y6 y7 y8)) ∧ (∀ y0 y1 y2 y3 y4 y5 y6 y7, LeO (laws_FnExactFirstCamp.j5 k y0 y1 y2 y3 y4 y5 y6 y7) (laws_FnExactFirstCamp.j5 (k + 1) y0 y1 y2 y3 y4 y5 y6 y7)) ∧ (∀ y0 y1 y2 y3 y4 y5 y6 y7 y8 y9, LeO (laws_FnExactFirstCamp.j6 k y0 y1 y2 y3 y4 y5 y6 y7 y8 y9) (laws_FnExactFirstCamp.j6 (k + 1) y0 y1 y2 y3 y4 y5 y6 y7 y8 y9)) ∧ (∀ y0 y1 y2 y3 y4 y5 y6 y7 y8, LeO (laws_FnExactFirstCamp.j7 k y0 y1 y2 y3 y4 y5 y6 y7 y8) (laws_FnExactFirstCamp.j7 (k + 1) y0 y1 y2 y3 y4 y5 y6 y7 y8)) ∧ (∀ y0 y1 y2 y3, LeO (laws_FnExactFirstCamp.j8 k y0 y1 y2 y3) (laws_FnExactFirstCamp.j8 (k + 1) y0 y1 y2 y3)) ∧ (∀ y0 y1 y2, LeO (laws_FnExactFirstCamp.j9 k y0 y1 y2) (laws_FnExactFirstCamp.j9 (k + 1) y0 y1 y2))
  | 0 => ⟨fun _ _ _ r h => by simp [laws_FnExactFirstCamp.j0] at h, fun _ _ _ _ _ _ _ _ _ _ _ _ _ r h => by simp [laws_FnExactFirstCamp.j1] at h, fun _ _ _ _ _ _ _ _ _ _ _ _ r h => by simp [laws_FnExactFirstCamp.j2] at h, fun _ _ _ _ _ _ _ _ _ _ _ _ r h => by simp [laws_FnExactFirstCamp.j3] at h, fun _ _ _ _ _ _ _ _ _ r h => by simp [laws_FnExactFirstCamp.j4] at h, fun _ _ _ _ _ _ _ _ r h => by simp [laws_FnExactFirstCamp.j5] at h, fun _ _ _ _ _ _ _ _ _ _ r h => by simp [laws_FnExactFirstCamp.j6] at h, fun _ _ _ _ _ _ _ _ _ r h => by simp [laws_FnExactFirstCamp.j7] at h, fun _ _ _ _ r h => by simp [laws_FnExactFirstCamp.j8] at h, fun _ _ _ r h => by simp [laws_FnExactFirstCamp.j9] at h⟩
  | k + 1 => by
    obtain ⟨ih0, ih1, ih2, ih3, ih4, ih5, ih6, ih7, ih8, ih9⟩ := laws_FnExactFirstCamp.mono_l k
    refine ⟨?_, ?_, ?_, ?_, ?_, ?_, ?_, ?_, ?_, ?_⟩
    · intro y0 y1 y2
      unfold laws_FnExactFirstCamp.j0
      repeat' first
      | (with_reducible exact ih0 _ _ _)
      | (with_reducible exact ih1 _ _ _ _ _ _ _ _ _ _ _ _ _)
      | (with_reducible exact ih2 _ _ _ _ _ _ _ _ _ _ _ _)
      | (with_reducible exact ih3 _ _ _ _ _ _ _ _ _ _ _ _)
      | (with_reducible exact ih4 _ _ _ _ _ _ _ _ _)
      | (with_reducible exact ih5 _ _ _ _ _ _ _ _)
      | (with_reducible exact ih6 _ _ _ _ _ _ _ _ _ _)
      | (with_reducible exact ih7 _ _ _ _ _ _ _ _ _)
      | (with_reducible exact ih8 _ _ _ _)
      | (with_reducible exact ih9 _ _ _)
      | (with_reducible exact laws_eqCamp.mono _ _ _ _ _)
      | (with_reducible exact laws_eqNight.mono _ _ _ _ _ _ _)
      | (with_reducible exact laws_heldCamp.mono _ _ _ _)
      | (with_reducible exact laws_markCamp.mono _ _ _ _)
      | (with_reducible exact laws_markNight.mono _ _ _ _ _)
      | (with_reducible exact laws_toNight.mono _ _ _ _)
      | (with_reducible exact spec_FirstCamp.mono _ _ _ _)
      | (with_reducible exact LeO.refl _)
      | (with_reducible exact LeO.none _)
      | (with_reducible refine LeO.ite ?_ ?_)
      | (with_reducible refine LeO.bind ?_ (fun _ => ?_))
      | exact ih0 _ _ _
      | exact ih1 _ _ _ _ _ _ _ _ _ _ _ _ _
      | exact ih2 _ _ _ _ _ _ _ _ _ _ _ _
      | exact ih3 _ _ _ _ _ _ _ _ _ _ _ _
      | exact ih4 _ _ _ _ _ _ _ _ _
      | exact ih5 _ _ _ _ _ _ _ _
      | exact ih6 _ _ _ _ _ _ _ _ _ _
      | exact ih7 _ _ _ _ _ _ _ _ _
      | exact ih8 _ _ _ _
      | exact ih9 _ _ _
      | exact laws_eqCamp.mono _ _ _ _ _
      | exact laws_eqNight.mono _ _ _ _ _ _ _
      | exact laws_heldCamp.mono _ _ _ _
      | exact laws_markCamp.mono _ _ _ _
      | exact laws_markNight.mono _ _ _ _ _
      | exact laws_toNight.mono _ _ _ _
      | exact spec_FirstCamp.mono _ _ _ _
      | exact LeO.none _
      | refine LeO.ite ?_ ?_
      | refine LeO.bind ?_ (fun _ => ?_)
    · intro y0 y1 y2 y3 y4 y5 y6 y7 y8 y9 y10 y11 y12
      unfold laws_FnExactFirstCamp.j1
      repeat' first
      | (with_reducible exact ih0 _ _ _)
      | (with_reducible exact ih1 _ _ _ _ _ _ _ _ _ _ _ _ _)
      | (with_reducible exact ih2 _ _ _ _ _ _ _ _ _ _ _ _)
      | (with_reducible exact ih3 _ _ _ _ _ _ _ _ _ _ _ _)
      | (with_reducible exact ih4 _ _ _ _ _ _ _ _ _)
      | (with_reducible exact ih5 _ _ _ _ _ _ _ _)
      | (with_reducible exact ih6 _ _ _ _ _ _ _ _ _ _)
      | (with_reducible exact ih7 _ _ _ _ _ _ _ _ _)
      | (with_reducible exact ih8 _ _ _ _)
      | (with_reducible exact ih9 _ _ _)
      | (with_reducible exact laws_eqCamp.mono _ _ _ _ _)
      | (with_reducible exact laws_eqNight.mono _ _ _ _ _ _ _)
      | (with_reducible exact laws_heldCamp.mono _ _ _ _)
      | (with_reducible exact laws_markCamp.mono _ _ _ _)
      | (with_reducible exact laws_markNight.mono _ _ _ _ _)
      | (with_reducible exact laws_toNight.mono _ _ _ _)
      | (with_reducible exact spec_FirstCamp.mono _ _ _ _)
      | (with_reducible exact LeO.refl _)
      | (with_reducible exact LeO.none _)
      | (with_reducible refine LeO.ite ?_ ?_)
      | (with_reducible refine LeO.bind ?_ (fun _ => ?_))
      | exact ih0 _ _ _
      | exact ih1 _ _ _ _ _ _ _ _ _ _ _ _ _
      | exact ih2 _ _ _ _ _ _ _ _ _ _ _ _
      | exact ih3 _ _ _ _ _ _ _ _ _ _ _ _
      | exact ih4 _ _ _ _ _ _ _ _ _
      | exact ih5 _ _ _ _ _ _ _ _
      | exact ih6 _ _ _ _ _ _ _ _ _ _
      | exact ih7 _ _ _ _ _ _ _ _ _
      | exact ih8 _ _ _ _
      | exact ih9 _ _ _
      | exact laws_eqCamp.mono _ _ _ _ _
      | exact laws_eqNight.mono _ _ _ _ _ _ _
      | exact laws_heldCamp.mono _ _ _ _
      | exact laws_markCamp.mono _ _ _ _
      | exact laws_markNight.mono _ _ _ _ _
      | exact laws_toNight.mono _ _ _ _
      | exact spec_FirstCamp.mono _ _ _ _
      | exact LeO.none _
      | refine LeO.ite ?_ ?_
      | refine LeO.bind ?_ (fun _ => ?_)
    · intro y0 y1 y2 y3 y4 y5 y6 y7 y8 y9 y10 y11
      unfold laws_FnExactFirstCamp.j2
      repeat' first
      | (with_reducible exact ih0 _ _ _)
      | (with_reducible exact ih1 _ _ _ _ _ _ _ _ _ _ _ _ _)
      | (with_reducible exact ih2 _ _ _ _ _ _ _ _ _ _ _ _)
      | (with_reducible exact ih3 _ _ _ _ _ _ _ _ _ _ _ _)
      | (with_reducible exact ih4 _ _ _ _ _ _ _ _ _)
      | (with_reducible exact ih5 _ _ _ _ _ _ _ _)
      | (with_reducible exact ih6 _ _ _ _ _ _ _ _ _ _)
      | (with_reducible exact ih7 _ _ _ _ _ _ _ _ _)
      | (with_reducible exact ih8 _ _ _ _)
      | (with_reducible exact ih9 _ _ _)
      | (with_reducible exact laws_eqCamp.mono _ _ _ _ _)
      | (with_reducible exact laws_eqNight.mono _ _ _ _ _ _ _)
      | (with_reducible exact laws_heldCamp.mono _ _ _ _)
      | (with_reducible exact laws_markCamp.mono _ _ _ _)
      | (with_reducible exact laws_markNight.mono _ _ _ _ _)
      | (with_reducible exact laws_toNight.mono _ _ _ _)
      | (with_reducible exact spec_FirstCamp.mono _ _ _ _)
      | (with_reducible exact LeO.refl _)
      | (with_reducible exact LeO.none _)
      | (with_reducible refine LeO.ite ?_ ?_)
      | (with_reducible refine LeO.bind ?_ (fun _ => ?_))
      | exact ih0 _ _ _
      | exact ih1 _ _ _ _ _ _ _ _ _ _ _ _ _
      | exact ih2 _ _ _ _ _ _ _ _ _ _ _ _
      | exact ih3 _ _ _ _ _ _ _ _ _ _ _ _
      | exact ih4 _ _ _ _ _ _ _ _ _
      | exact ih5 _ _ _ _ _ _ _ _
      | exact ih6 _ _ _ _ _ _ _ _ _ _
      | exact ih7 _ _ _ _ _ _ _ _ _
      | exact ih8 _ _ _ _
      | exact ih9 _ _ _
      | exact laws_eqCamp.mono _ _ _ _ _
      | exact laws_eqNight.mono _ _ _ _ _ _ _
      | exact laws_heldCamp.mono _ _ _ _
      | exact laws_markCamp.mono _ _ _ _
      | exact laws_markNight.mono _ _ _ _ _
      | exact laws_toNight.mono _ _ _ _
      | exact spec_FirstCamp.mono _ _ _ _
      | exact LeO.none _
      | refine LeO.ite ?_ ?_
      | refine LeO.bind ?_ (fun _ => ?_)
    · intro y0 y1 y2 y3 y4 y5 y6 y7 y8 y9 y10 y11
      unfold laws_FnExactFirstCamp.j3
      repeat' first
      | (with_reducible exact ih0 _ _ _)
      | (with_reducible exact ih1 _ _ _ _ _ _ _ _ _ _ _ _ _)
      | (with_reducible exact ih2 _ _ _ _ _ _ _ _ _ _ _ _)
      | (with_reducible exact ih3 _ _ _ _ _ _ _ _ _ _ _ _)
      | (with_reducible exact ih4 _ _ _ _ _ _ _ _ _)
      | (with_reducible exact ih5 _ _ _ _ _ _ _ _)
      | (with_reducible exact ih6 _ _ _ _ _ _ _ _ _ _)
      | (with_reducible exact ih7 _ _ _ _ _ _ _ _ _)
      | (with_reducible exact ih8 _ _ _ _)
      | (with_reducible exact ih9 _ _ _)
      | (with_reducible exact laws_eqCamp.mono _ _ _ _ _)
      | (with_reducible exact laws_eqNight.mono _ _ _ _ _ _ _)
      | (with_reducible exact laws_heldCamp.mono _ _ _ _)
      | (with_reducible exact laws_markCamp.mono _ _ _ _)
      | (with_reducible exact laws_markNight.mono _ _ _ _ _)
      | (with_reducible exact laws_toNight.mono _ _ _ _)
      | (with_reducible exact spec_FirstCamp.mono _ _ _ _)
      | (with_reducible exact LeO.refl _)
      | (with_reducible exact LeO.none _)
      | (with_reducible refine LeO.ite ?_ ?_)
      | (with_reducible refine LeO.bind ?_ (fun _ => ?_))
      | exact ih0 _ _ _
      | exact ih1 _ _ _ _ _ _ _ _ _ _ _ _ _
      | exact ih2 _ _ _ _ _ _ _ _ _ _ _ _
      | exact ih3 _ _ _ _ _ _ _ _ _ _ _ _
      | exact ih4 _ _ _ _ _ _ _ _ _
      | exact ih5 _ _ _ _ _ _ _ _
      | exact ih6 _ _ _ _ _ _ _ _ _ _
      | exact ih7 _ _ _ _ _ _ _ _ _
      | exact ih8 _ _ _ _
      | exact ih9 _ _ _
      | exact laws_eqCamp.mono _ _ _ _ _
      | exact laws_eqNight.mono _ _ _ _ _ _ _
      | exact laws_heldCamp.mono _ _ _ _
      | exact laws_markCamp.mono _ _ _ _
      | exact laws_markNight.mono _ _ _ _ _
      | exact laws_toNight.mono _ _ _ _
      | exact spec_FirstCamp.mono _ _ _ _
      | exact LeO.none _
      | refine LeO.ite ?_ ?_
      | refine LeO.bind ?_ (fun _ => ?_)
    · intro y0 y1 y2 y3 y4 y5 y6 y7 y8
      unfold laws_FnExactFirstCamp.j4
      repeat' first
      | (with_reducible exact ih0 _ _ _)
      | (with_reducible exact ih1 _ _ _ _ _ _ _ _ _ _ _ _ _)
      | (with_reducible exact ih2 _ _ _ _ _ _ _ _ _ _ _ _)
      | (with_reducible exact ih3 _ _ _ _ _ _ _ _ _ _ _ _)
      | (with_reducible exact ih4 _ _ _ _ _ _ _ _ _)
      | (with_reducible exact ih5 _ _ _ _ _ _ _ _)
      | (with_reducible exact ih6 _ _ _ _ _ _ _ _ _ _)
      | (with_reducible exact ih7 _ _ _ _ _ _ _ _ _)
      | (with_reducible exact ih8 _ _ _ _)
      | (with_reducible exact ih9 _ _ _)
      | (with_reducible exact laws_eqCamp.mono _ _ _ _ _)
      | (with_reducible exact laws_eqNight.mono _ _ _ _ _ _ _)
      | (with_reducible exact laws_heldCamp.mono _ _ _ _)
      | (with_reducible exact laws_markCamp.mono _ _ _ _)
      | (with_reducible exact laws_markNight.mono _ _ _ _ _)
      | (with_reducible exact laws_toNight.mono _ _ _ _)
      | (with_reducible exact spec_FirstCamp.mono _ _ _ _)
      | (with_reducible exact LeO.refl _)
      | (with_reducible exact LeO.none _)
      | (with_reducible refine LeO.ite ?_ ?_)
      | (with_reducible refine LeO.bind ?_ (fun _ => ?_))
      | exact ih0 _ _ _
      | exact ih1 _ _ _ _ _ _ _ _ _ _ _ _ _
      | exact ih2 _ _ _ _ _ _ _ _ _ _ _ _
      | exact ih3 _ _ _ _ _ _ _ _ _ _ _ _
      | exact ih4 _ _ _ _ _ _ _ _ _
      | exact ih5 _ _ _ _ _ _ _ _
      | exact ih6 _ _ _ _ _ _ _ _ _ _
      | exact ih7 _ _ _ _ _ _ _ _ _
      | exact ih8 _ _ _ _
      | exact ih9 _ _ _
      | exact laws_eqCamp.mono _ _ _ _ _
      | exact laws_eqNight.mono _ _ _ _ _ _ _
      | exact laws_heldCamp.mono _ _ _ _
      | exact laws_markCamp.mono _ _ _ _
      | exact laws_markNight.mono _ _ _ _ _
      | exact laws_toNight.mono _ _ _ _
      | exact spec_FirstCamp.mono _ _ _ _
      | exact LeO.none _
      | refine LeO.ite ?_ ?_
      | refine LeO.bind ?_ (fun _ => ?_)
    · intro y0 y1 y2 y3 y4 y5 y6 y7
      unfold laws_FnExactFirstCamp.j5
      repeat' first
      | (with_reducible exact ih0 _ _ _)
      | (with_reducible exact ih1 _ _ _ _ _ _ _ _ _ _ _ _ _)
      | (with_reducible exact ih2 _ _ _ _ _ _ _ _ _ _ _ _)
      | (with_reducible exact ih3 _ _ _ _ _ _ _ _ _ _ _ _)
      | (with_reducible exact ih4 _ _ _ _ _ _ _ _ _)
      | (with_reducible exact ih5 _ _ _ _ _ _ _ _)
      | (with_reducible exact ih6 _ _ _ _ _ _ _ _ _ _)
      | (with_reducible exact ih7 _ _ _ _ _ _ _ _ _)
      | (with_reducible exact ih8 _ _ _ _)
      | (with_reducible exact ih9 _ _ _)
      | (with_reducible exact laws_eqCamp.mono _ _ _ _ _)
      | (with_reducible exact laws_eqNight.mono _ _ _ _ _ _ _)
      | (with_reducible exact laws_heldCamp.mono _ _ _ _)
      | (with_reducible exact laws_markCamp.mono _ _ _ _)
      | (with_reducible exact laws_markNight.mono _ _ _ _ _)
      | (with_reducible exact laws_toNight.mono _ _ _ _)
      | (with_reducible exact spec_FirstCamp.mono _ _ _ _)
      | (with_reducible exact LeO.refl _)
      | (with_reducible exact LeO.none _)
      | (with_reducible refine LeO.ite ?_ ?_)
      | (with_reducible refine LeO.bind ?_ (fun _ => ?_))
      | exact ih0 _ _ _
      | exact ih1 _ _ _ _ _ _ _ _ _ _ _ _ _
      | exact ih2 _ _ _ _ _ _ _ _ _ _ _ _
      | exact ih3 _ _ _ _ _ _ _ _ _ _ _ _
      | exact ih4 _ _ _ _ _ _ _ _ _
      | exact ih5 _ _ _ _ _ _ _ _
      | exact ih6 _ _ _ _ _ _ _ _ _ _
      | exact ih7 _ _ _ _ _ _ _ _ _
      | exact ih8 _ _ _ _
      | exact ih9 _ _ _
      | exact laws_eqCamp.mono _ _ _ _ _
      | exact laws_eqNight.mono _ _ _ _ _ _ _
      | exact laws_heldCamp.mono _ _ _ _
      | exact laws_markCamp.mono _ _ _ _
      | exact laws_markNight.mono _ _ _ _ _
      | exact laws_toNight.mono _ _ _ _
      | exact spec_FirstCamp.mono _ _ _ _
      | exact LeO.none _
      | refine LeO.ite ?_ ?_
      | refine LeO.bind ?_ (fun _ => ?_)
    · intro y0 y1 y2 y3 y4 y5 y6 y7 y8 y9
      unfold laws_FnExactFirstCamp.j6
      repeat' first
      | (with_reducible exact ih0 _ _ _)
      | (with_reducible exact ih1 _ _ _ _ _ _ _ _ _ _ _ _ _)
      | (with_reducible exact ih2 _ _ _ _ _ _ _ _ _ _ _ _)
      | (with_reducible exact ih3 _ _ _ _ _ _ _ _ _ _ _ _)
      | (with_reducible exact ih4 _ _ _ _ _ _ _ _ _)
      | (with_reducible exact ih5 _ _ _ _ _ _ _ _)
      | (with_reducible exact ih6 _ _ _ _ _ _ _ _ _ _)
      | (with_reducible exact ih7 _ _ _ _ _ _ _ _ _)
      | (with_reducible exact ih8 _ _ _ _)
      | (with_reducible exact ih9 _ _ _)
      | (with_reducible exact laws_eqCamp.mono _ _ _ _ _)
      | (with_reducible exact laws_eqNight.mono _ _ _ _ _ _ _)
      | (with_reducible exact laws_heldCamp.mono _ _ _ _)
      | (with_reducible exact laws_markCamp.mono _ _ _ _)
      | (with_reducible exact laws_markNight.mono _ _ _ _ _)
      | (with_reducible exact laws_toNight.mono _ _ _ _)
      | (with_reducible exact spec_FirstCamp.mono _ _ _ _)
      | (with_reducible exact LeO.refl _)
      | (with_reducible exact LeO.none _)
      | (with_reducible refine LeO.ite ?_ ?_)
      | (with_reducible refine LeO.bind ?_ (fun _ => ?_))
      | exact ih0 _ _ _
      | exact ih1 _ _ _ _ _ _ _ _ _ _ _ _ _
      | exact ih2 _ _ _ _ _ _ _ _ _ _ _ _
      | exact ih3 _ _ _ _ _ _ _ _ _ _ _ _
      | exact ih4 _ _ _ _ _ _ _ _ _
      | exact ih5 _ _ _ _ _ _ _ _
      | exact ih6 _ _ _ _ _ _ _ _ _ _
      | exact ih7 _ _ _ _ _ _ _ _ _
      | exact ih8 _ _ _ _
      | exact ih9 _ _ _
      | exact laws_eqCamp.mono _ _ _ _ _
      | exact laws_eqNight.mono _ _ _ _ _ _ _
      | exact laws_heldCamp.mono _ _ _ _
      | exact laws_markCamp.mono _ _ _ _
      | exact laws_markNight.mono _ _ _ _ _
      | exact laws_toNight.mono _ _ _ _
      | exact spec_FirstCamp.mono _ _ _ _
      | exact LeO.none _
      | refine LeO.ite ?_ ?_
      | refine LeO.bind ?_ (fun _ => ?_)
    · intro y0 y1 y2 y3 y4 y5 y6 y7 y8
      unfold laws_FnExactFirstCamp.j7
      repeat' first
      | (with_reducible exact ih0 _ _ _)
      | (with_reducible exact ih1 _ _ _ _ _ _ _ _ _ _ _ _ _)
      | (with_reducible exact ih2 _ _ _ _ _ _ _ _ _ _ _ _)
      | (with_reducible exact ih3 _ _ _ _ _ _ _ _ _ _ _ _)
      | (with_reducible exact ih4 _ _ _ _ _ _ _ _ _)
      | (with_reducible exact ih5 _ _ _ _ _ _ _ _)
      | (with_reducible exact ih6 _ _ _ _ _ _ _ _ _ _)
      | (with_reducible exact ih7 _ _ _ _ _ _ _ _ _)
      | (with_reducible exact ih8 _ _ _ _)
      | (with_reducible exact ih9 _ _ _)
      | (with_reducible exact laws_eqCamp.mono _ _ _ _ _)
      | (with_reducible exact laws_eqNight.mono _ _ _ _ _ _ _)
      | (with_reducible exact laws_heldCamp.mono _ _ _ _)
      | (with_reducible exact laws_markCamp.mono _ _ _ _)
      | (with_reducible exact laws_markNight.mono _ _ _ _ _)
      | (with_reducible exact laws_toNight.mono _ _ _ _)
      | (with_reducible exact spec_FirstCamp.mono _ _ _ _)
      | (with_reducible exact LeO.refl _)
      | (with_reducible exact LeO.none _)
      | (with_reducible refine LeO.ite ?_ ?_)
      | (with_reducible refine LeO.bind ?_ (fun _ => ?_))
      | exact ih0 _ _ _
      | exact ih1 _ _ _ _ _ _ _ _ _ _ _ _ _
      | exact ih2 _ _ _ _ _ _ _ _ _ _ _ _
      | exact ih3 _ _ _ _ _ _ _ _ _ _ _ _
      | exact ih4 _ _ _ _ _ _ _ _ _
      | exact ih5 _ _ _ _ _ _ _ _
      | exact ih6 _ _ _ _ _ _ _ _ _ _
      | exact ih7 _ _ _ _ _ _ _ _ _
      | exact ih8 _ _ _ _
      | exact ih9 _ _ _
      | exact laws_eqCamp.mono _ _ _ _ _
      | exact laws_eqNight.mono _ _ _ _ _ _ _
      | exact laws_heldCamp.mono _ _ _ _
      | exact laws_markCamp.mono _ _ _ _
      | exact laws_markNight.mono _ _ _ _ _
      | exact laws_toNight.mono _ _ _ _
      | exact spec_FirstCamp.mono _ _ _ _
      | exact LeO.none _
      | refine LeO.ite ?_ ?_
      | refine LeO.bind ?_ (fun _ => ?_)
    · intro y0 y1 y2 y3
      unfold laws_FnExactFirstCamp.j8
      repeat' first
      | (with_reducible exact ih0 _ _ _)
      | (with_reducible exact ih1 _ _ _ _ _ _ _ _ _ _ _ _ _)
      | (with_reducible exact ih2 _ _ _ _ _ _ _ _ _ _ _ _)
      | (with_reducible exact ih3 _ _ _ _ _ _ _ _ _ _ _ _)
      | (with_reducible exact ih4 _ _ _ _ _ _ _ _ _)
      | (with_reducible exact ih5 _ _ _ _ _ _ _ _)
      | (with_reducible exact ih6 _ _ _ _ _ _ _ _ _ _)
      | (with_reducible exact ih7 _ _ _ _ _ _ _ _ _)
      | (with_reducible exact ih8 _ _ _ _)
      | (with_reducible exact ih9 _ _ _)
      | (with_reducible exact laws_eqCamp.mono _ _ _ _ _)
      | (with_reducible exact laws_eqNight.mono _ _ _ _ _ _ _)
      | (with_reducible exact laws_heldCamp.mono _ _ _ _)
      | (with_reducible exact laws_markCamp.mono _ _ _ _)
      | (with_reducible exact laws_markNight.mono _ _ _ _ _)
      | (with_reducible exact laws_toNight.mono _ _ _ _)
      | (with_reducible exact spec_FirstCamp.mono _ _ _ _)
      | (with_reducible exact LeO.refl _)
      | (with_reducible exact LeO.none _)
      | (with_reducible refine LeO.ite ?_ ?_)
      | (with_reducible refine LeO.bind ?_ (fun _ => ?_))
      | exact ih0 _ _ _
      | exact ih1 _ _ _ _ _ _ _ _ _ _ _ _ _
      | exact ih2 _ _ _ _ _ _ _ _ _ _ _ _
      | exact ih3 _ _ _ _ _ _ _ _ _ _ _ _
      | exact ih4 _ _ _ _ _ _ _ _ _
      | exact ih5 _ _ _ _ _ _ _ _
      | exact ih6 _ _ _ _ _ _ _ _ _ _
      | exact ih7 _ _ _ _ _ _ _ _ _
      | exact ih8 _ _ _ _
      | exact ih9 _ _ _
      | exact laws_eqCamp.mono _ _ _ _ _
      | exact laws_eqNight.mono _ _ _ _ _ _ _
      | exact laws_heldCamp.mono _ _ _ _
      | exact laws_markCamp.mono _ _ _ _
      | exact laws_markNight.mono _ _ _ _ _
      | exact laws_toNight.mono _ _ _ _
      | exact spec_FirstCamp.mono _ _ _ _
      | exact LeO.none _
      | refine LeO.ite ?_ ?_
      | refine LeO.bind ?_ (fun _ => ?_)
    · intro y0 y1 y2
      unfold laws_FnExactFirstCamp.j9
      repeat' first
      | (with_reducible exact ih0 _ _ _)
      | (with_reducible exact ih1 _ _ _ _ _ _ _ _ _ _ _ _ _)
      | (with_reducible exact ih2 _ _ _ _ _ _ _ _ _ _ _ _)
      | (with_reducible exact ih3 _ _ _ _ _ _ _ _ _ _ _ _)
      | (with_reducible exact ih4 _ _ _ _ _ _ _ _ _)
      | (with_reducible exact ih5 _ _ _ _ _ _ _ _)
      | (with_reducible exact ih6 _ _ _ _ _ _ _ _ _ _)
      | (with_reducible exact ih7 _ _ _ _ _ _ _ _ _)
      | (with_reducible exact ih8 _ _ _ _)
      | (with_reducible exact ih9 _ _ _)
      | (with_reducible exact laws_eqCamp.mono _ _ _ _ _)
      | (with_reducible exact laws_eqNight.mono _ _ _ _ _ _ _)
      | (with_reducible exact laws_heldCamp.mono _ _ _ _)
      | (with_reducible exact laws_markCamp.mono _ _ _ _)
      | (with_reducible exact laws_markNight.mono _ _ _ _ _)
      | (with_reducible exact laws_toNight.mono _ _ _ _)
      | (with_reducible exact spec_FirstCamp.mono _ _ _ _)
      | (with_reducible exact LeO.refl _)
      | (with_reducible exact LeO.none _)
      | (with_reducible refine LeO.ite ?_ ?_)
      | (with_reducible refine LeO.bind ?_ (fun _ => ?_))
      | exact ih0 _ _ _
      | exact ih1 _ _ _ _ _ _ _ _ _ _ _ _ _
      | exact ih2 _ _ _ _ _ _ _ _ _ _ _ _
      | exact ih3 _ _ _ _ _ _ _ _ _ _ _ _
      | exact ih4 _ _ _ _ _ _ _ _ _
      | exact ih5 _ _ _ _ _ _ _ _
      | exact ih6 _ _ _ _ _ _ _ _ _ _
      | exact ih7 _ _ _ _ _ _ _ _ _
      | exact ih8 _ _ _ _
      | exact ih9 _ _ _
      | exact laws_eqCamp.mono _ _ _ _ _
      | exact laws_eqNight.mono _ _ _ _ _ _ _
      | exact laws_heldCamp.mono _ _ _ _
      | exact laws_markCamp.mono _ _ _ _
      | exact laws_markNight.mono _ _ _ _ _
      | exact laws_toNight.mono _ _ _ _
      | exact spec_FirstCamp.mono _ _ _ _
      | exact LeO.none _
      | refine LeO.ite ?_ ?_
      | refine LeO.bind ?_ (fun _ => ?_)
theorem laws_FnExactFirstCamp.mono : ∀ a0 a1 a2 k, LeO (laws_FnExactFirstCamp.f k a0 a1 a2) (laws_FnExactFirstCamp.f (k + 1) a0 a1 a2) := by
  intro a0 a1 a2 k
  obtain ⟨ih0, ih1, ih2, ih3, ih4, ih5, ih6, ih7, ih8, ih9⟩ := laws_FnExactFirstCamp.mono_l k
  unfold laws_FnExactFirstCamp.f
  repeat' first
      | (with_reducible exact ih0 _ _ _)
      | (with_reducible exact ih1 _ _ _ _ _ _ _ _ _ _ _ _ _)
      | (with_reducible exact ih2 _ _ _ _ _ _ _ _ _ _ _ _)
      | (with_reducible exact ih3 _ _ _ _ _ _ _ _ _ _ _ _)
      | (with_reducible exact ih4 _ _ _ _ _ _ _ _ _)
      | (with_reducible exact ih5 _ _ _ _ _ _ _ _)
      | (with_reducible exact ih6 _ _ _ _ _ _ _ _ _ _)
      | (with_reducible exact ih7 _ _ _ _ _ _ _ _ _)
      | (with_reducible exact ih8 _ _ _ _)
      | (with_reducible exact ih9 _ _ _)
      | (with_reducible exact laws_eqCamp.mono _ _ _ _ _)
      | (with_reducible exact laws_eqNight.mono _ _ _ _ _ _ _)
      | (with_reducible exact laws_heldCamp.mono _ _ _ _)
      | (with_reducible exact laws_markCamp.mono _ _ _ _)
      | (with_reducible exact laws_markNight.mono _ _ _ _ _)
      | (with_reducible exact laws_toNight.mono _ _ _ _)
      | (with_reducible exact spec_FirstCamp.mono _ _ _ _)
      | (with_reducible exact LeO.refl _)
      | (with_reducible exact LeO.none _)
      | (with_reducible refine LeO.ite ?_ ?_)
      | (with_reducible refine LeO.bind ?_ (fun _ => ?_))
      | exact ih0 _ _ _
      | exact ih1 _ _ _ _ _ _ _ _ _ _ _ _ _
      | exact ih2 _ _ _ _ _ _ _ _ _ _ _ _
      | exact ih3 _ _ _ _ _ _ _ _ _ _ _ _
      | exact ih4 _ _ _ _ _ _ _ _ _
      | exact ih5 _ _ _ _ _ _ _ _
      | exact ih6 _ _ _ _ _ _ _ _ _ _
      | exact ih7 _ _ _ _ _ _ _ _ _
      | exact ih8 _ _ _ _
      | exact ih9 _ _ _
      | exact laws_eqCamp.mono _ _ _ _ _
      | exact laws_eqNight.mono _ _ _ _ _ _ _
      | exact laws_heldCamp.mono _ _ _ _
      | exact laws_markCamp.mono _ _ _ _
      | exact laws_markNight.mono _ _ _ _ _
      | exact laws_toNight.mono _ _ _ _
      | exact spec_FirstCamp.mono _ _ _ _
      | exact LeO.none _
      | refine LeO.ite ?_ ?_
      | refine LeO.bind ?_ (fun _ => ?_)
set_option maxHeartbeats 8000000 in
set_option maxRecDepth 100000 in
theorem laws_FnExactFirstCamp.calls (k : Nat) (A0_0 : Option Addr) (c0_0 : Nat) (l0_0 : List Int) (a0_1 : Int) (a0_2 : Int) (r : Bool) (w : World) (hr0_0 : Kd.C (Kd.int .i64) w A0_0 l0_0.length l0_0) (hc0_0 : l0_0.length ≤ c0_0) (h : laws_FnExactFirstCamp.f k l0_0 a0_1 a0_2 = some r) :
    Calls Try.prog 3 #[.agg #[.slice A0_0 l0_0.length c0_0, .int .i64 a0_1, .int .i64 a0_2]] w fun e w' => e = .returned (.bool r) ∧ Below w.heap.size w w' := by
  have hu24 := Try.underlying24
  have hu28 := Try.underlying28
  have hu31 := Try.underlying31
  have HR0_0 := Aside0.mk hr0_0
  have HC0_0 := Aside0.mk hc0_0
  clear hr0_0 hc0_0
  have HB := Aside0.mk (Below.refl w.heap.size w)
  have H : ((laws_szNight.f l0_0 a0_1 a0_2 1048576).bind fun t165 => (if t165 < 0 then (some true) else (laws_FnExactFirstCamp.j0 k l0_0 a0_1 a0_2))) = some r := h
  clear h
  replace H := Option.bind_eq_some_iff.mp H
  obtain ⟨t165, A20, H⟩ := H
  replace H : (if t165 < 0 then (some true) else (laws_FnExactFirstCamp.j0 k l0_0 a0_1 a0_2)) = some r := H
  have A2 := Aside0.mk A20
  clear A20
  have HC3 := Aside0.mk H
  clear H
  go_enter Try.func3, Try.ntmps3
  go_upto_if 18 with (first | ((with_reducible refine gate_dst (N := 1) rfl ?_); refine box_event ?hg (N := 1) ?hd (cs := #[.slice A0_0 l0_0.length c0_0, .int .i64 a0_1, .int .i64 a0_2]) (t := 24) ?hr ?_; (case hd => rfl); (case hg => rfl); (case hr => first | (go_simp; done) | (go_simp; rfl)); intro gb164 hg w4 hbox hb; have n0_ := Aside0.mk (below_step (by repeat (first | (with_reducible first | exact HB.out | apply below_alloc | apply pw_below_drewN | apply below_drew1) | exact HB.out)) hb); have n1_ := Aside0.mk (hbox); have n2_ := Aside0.mk ((by rw [hg]; exact (below_size (by repeat (first | (with_reducible first | exact HB.out | apply below_alloc | apply pw_below_drewN | apply below_drew1) | exact HB.out))) : w.heap.size ≤ gb164)); have n3_ := Aside0.mk ((by rw [hg]; exact (below_size (by repeat (first | (with_reducible first | exact HB.out | apply below_alloc | apply pw_below_drewN | apply below_drew1) | exact HB.out))) : w.heap.size ≤ gb164)); clear HB; have HB := n0_; have BK164 := n1_; have GW164 := n2_; have GE164 := n3_; clear n0_ n1_ n2_ n3_; clear hb hbox hg; have hcz5_0 : w4.cell? ⟨gb164, 0, none⟩ = some (.slice A0_0 l0_0.length c0_0) := (blk_cell BK164.out 0).trans rfl; have hcz5_1 : w4.cell? ⟨gb164, 1, none⟩ = some (.int .i64 a0_1) := (blk_cell BK164.out 1).trans rfl; have hcz5_2 : w4.cell? ⟨gb164, 2, none⟩ = some (.int .i64 a0_2) := (blk_cell BK164.out 2).trans rfl; have hfz5_0 := blk_frozen BK164.out 0; have hfz5_1 := blk_frozen BK164.out 1; have hfz5_2 := blk_frozen BK164.out 2) | ((with_reducible refine gate_callee (f := 15) rfl ?_); refine goesL_ (some 16) rfl rfl Try.func15 (by kernel_rfl) rfl #[.agg #[.slice A0_0 l0_0.length c0_0, .int .i64 a0_1, .int .i64 a0_2], .int .i64 1048576] rfl (by (try simp only [List.map_toArray, List.map_cons, List.map_nil]); first | done | rfl | (simp only [List.length_drop, List.length_take]; rfl)) ?_; (with_reducible refine (laws_szNight.calls _ _ l0_0 a0_1 a0_2 1048576 t165 _ ?side1 ?side2 A2.out).mono ?_); (case side1 => repeat (first | exact (Kd.C_below HR0_0.out HB.out) | (with_reducible refine Kd.C_alloc ?_ _) | (with_reducible refine Kd.C_drewN ?_ _) | (with_reducible refine Kd.C_drew ?_))); (case side2 => exact HC0_0.out); rintro e w6 ⟨rfl, hb⟩; refine ⟨_, rfl, ?_⟩; have n0_ := Aside0.mk (blk_below (g := gb164) (o := .cells #[.slice A0_0 l0_0.length c0_0, .int .i64 a0_1, .int .i64 a0_2] 24 (0, 0)) (by (with_reducible repeat (first | refine blk_drewN ?_ _ | refine blk_drew ?_ | refine blk_alloc ?_ _)); exact BK164.out) hb); have n1_ := Aside0.mk (below_step (by repeat (first | (with_reducible first | exact HB.out | apply below_alloc | apply pw_below_drewN | apply below_drew1 | refine below_set ?_ GE164.out) | exact HB.out)) hb); clear BK164; clear HB; have BK164 := n0_; have HB := n1_; clear n0_ n1_; (try clear hb); (try clear hb2); (try clear hk); (try clear hi)))
  (try simp only [Act.put, List.setIfInBounds_toArray, List.set_cons_zero, List.set_cons_succ])
  go_cut [] (fun wc => ∃ (kq : Nat), Aside0 (laws_FnExactFirstCamp.j0 kq l0_0 a0_1 a0_2 = some r) ∧ Aside0 (kq ≤ k) ∧ Aside0 (wc.heap[gb164]? = some (.cells #[(.slice A0_0 l0_0.length c0_0), .int .i64 a0_1, .int .i64 a0_2] 24 (0, 0))) ∧ Aside0 (Below w.heap.size w wc))
  case first =>
    have H := HC3.out
    clear HC3
    by_cases c7 : t165 < 0
    · rw [if_pos c7] at H
      have c7b0 : decide (t165 < 0) = true := decide_eq_true c7
      clear c7
      (first | rw [c7b0] | (simp only [i64_w, i32_w]; rw [c7b0]) | skip)
      obtain rfl := Option.some.inj H
      go_wp2
      go_ret
      exact ⟨by first | rfl | (simp [errW_none, errW_some] <;> rfl) | (simp [*, errW_none, errW_some] <;> rfl), by repeat (first | (with_reducible first | exact HB.out | apply below_alloc | apply pw_below_drewN | apply below_drew1 | refine below_set ?_ GE164.out) | exact HB.out)⟩
    · rw [if_neg c7] at H
      have c7b0 : decide (t165 < 0) = false := decide_eq_false c7
      clear c7
      (first | rw [c7b0] | (simp only [i64_w, i32_w]; rw [c7b0]) | skip)
      have H' := Aside0.mk H
      clear H
      go_wp2
      go_meet
      case rel => exact ⟨_, H', ⟨by first | omega | exact Nat.le_refl _⟩, ⟨by (with_reducible repeat (first | refine blk_drewN ?_ _ | refine blk_drew ?_ | refine blk_alloc ?_ _)); exact BK164.out⟩, ⟨by repeat (first | (with_reducible first | exact HB.out | apply below_alloc | apply pw_below_drewN | apply below_drew1 | refine below_set ?_ GE164.out) | exact HB.out)⟩⟩
  case rest =>
    clear HC3
    try clear c1
    try clear p2
    try clear c3
    try clear c7
    try clear c7b0
    try clear hcz5_0
    try clear hcz5_1
    try clear hcz5_2
    try clear hfz5_0
    try clear hfz5_1
    try clear hfz5_2
    obtain ⟨kq, HA, HJ2, BK164, HB⟩ := hcut
    cases kq with
    | zero => exact absurd HA.out (by simp [laws_FnExactFirstCamp.j0])
    | succ kj2 =>
      have H := HA.out
      clear HA
      simp only [laws_FnExactFirstCamp.j0] at H
      replace H := Option.bind_eq_some_iff.mp H
      obtain ⟨⟨t166, t169, t170⟩, A80, H⟩ := H
      replace H : ((spec_FirstCamp.f kj2 t166 t169 t170).bind fun bt171 => ((laws_toNight.f kj2 l0_0 a0_1 a0_2).bind fun bt177 => ((impl_FirstCamp.f bt177.1 bt177.2.1 bt177.2.2).bind fun bt183 => ((laws_eqCamp.f kj2 bt183.1 bt183.2.1 bt171.1 bt171.2.1).bind fun t189 => (if t189 = true then (laws_FnExactFirstCamp.j1 kj2 bt171.2.2 bt183.2.2 (bt183.2.2 != bt171.2.2) l0_0 a0_1 a0_2 bt171.1 bt171.2.1 bt177.1 bt177.2.1 bt177.2.2 bt183.1 bt183.2.1) else (laws_FnExactFirstCamp.j1 kj2 bt171.2.2 bt183.2.2 true l0_0 a0_1 a0_2 bt171.1 bt171.2.1 bt177.1 bt177.2.1 bt177.2.2 bt183.1 bt183.2.1)))))) = some r := H
      have A8 := Aside0.mk A80
      clear A80
      replace H := Option.bind_eq_some_iff.mp H
      obtain ⟨⟨t171, t174, t175⟩, A90, H⟩ := H
      replace H : ((laws_toNight.f kj2 l0_0 a0_1 a0_2).bind fun bt177 => ((impl_FirstCamp.f bt177.1 bt177.2.1 bt177.2.2).bind fun bt183 => ((laws_eqCamp.f kj2 bt183.1 bt183.2.1 t171 t174).bind fun t189 => (if t189 = true then (laws_FnExactFirstCamp.j1 kj2 t175 bt183.2.2 (bt183.2.2 != t175) l0_0 a0_1 a0_2 t171 t174 bt177.1 bt177.2.1 bt177.2.2 bt183.1 bt183.2.1) else (laws_FnExactFirstCamp.j1 kj2 t175 bt183.2.2 true l0_0 a0_1 a0_2 t171 t174 bt177.1 bt177.2.1 bt177.2.2 bt183.1 bt183.2.1))))) = some r := H
      have A9 := Aside0.mk A90
      clear A90
      replace H := Option.bind_eq_some_iff.mp H
      obtain ⟨⟨t177, t180, t181⟩, A100, H⟩ := H
      replace H : ((impl_FirstCamp.f t177 t180 t181).bind fun bt183 => ((laws_eqCamp.f kj2 bt183.1 bt183.2.1 t171 t174).bind fun t189 => (if t189 = true then (laws_FnExactFirstCamp.j1 kj2 t175 bt183.2.2 (bt183.2.2 != t175) l0_0 a0_1 a0_2 t171 t174 t177 t180 t181 bt183.1 bt183.2.1) else (laws_FnExactFirstCamp.j1 kj2 t175 bt183.2.2 true l0_0 a0_1 a0_2 t171 t174 t177 t180 t181 bt183.1 bt183.2.1)))) = some r := H
      have A10 := Aside0.mk A100
      clear A100
      replace H := Option.bind_eq_some_iff.mp H
      obtain ⟨⟨t183, t186, t187⟩, A110, H⟩ := H
      replace H : ((laws_eqCamp.f kj2 t183 t186 t171 t174).bind fun t189 => (if t189 = true then (laws_FnExactFirstCamp.j1 kj2 t175 t187 (t187 != t175) l0_0 a0_1 a0_2 t171 t174 t177 t180 t181 t183 t186) else (laws_FnExactFirstCamp.j1 kj2 t175 t187 true l0_0 a0_1 a0_2 t171 t174 t177 t180 t181 t183 t186))) = some r := H
      have A11 := Aside0.mk A110
      clear A110
      have HC12 := Aside0.mk H
      clear H
      have hcz13_0 : wc.cell? ⟨gb164, 0, none⟩ = some (.slice A0_0 l0_0.length c0_0) := (blk_cell BK164.out 0).trans rfl
      have hcz13_1 : wc.cell? ⟨gb164, 1, none⟩ = some (.int .i64 a0_1) := (blk_cell BK164.out 1).trans rfl
      have hcz13_2 : wc.cell? ⟨gb164, 2, none⟩ = some (.int .i64 a0_2) := (blk_cell BK164.out 2).trans rfl
      have hfz13_0 := blk_frozen BK164.out 0
      have hfz13_1 := blk_frozen BK164.out 1
      have hfz13_2 := blk_frozen BK164.out 2
      go_upto_region 8 with (first | ((with_reducible refine gate_callee (f := 17) rfl ?_); refine goesL_ (some 21) rfl rfl Try.func17 (by kernel_rfl) rfl #[.agg #[.slice A0_0 l0_0.length c0_0, .int .i64 a0_1, .int .i64 a0_2]] rfl (by (try simp only [List.map_toArray, List.map_cons, List.map_nil]); first | done | rfl | (simp only [List.length_drop, List.length_take]; rfl)) ?_; (with_reducible refine (laws_toNight.calls kj2 _ _ l0_0 a0_1 a0_2 t166 t169 t170 _ ?side1 ?side2 A8.out).mono ?_); (case side1 => repeat (first | exact (Kd.C_below HR0_0.out HB.out) | (with_reducible refine Kd.C_alloc ?_ _) | (with_reducible refine Kd.C_drewN ?_ _) | (with_reducible refine Kd.C_drew ?_))); (case side2 => exact HC0_0.out); rintro e w14 ⟨v167, rfl, ho0, hb⟩; refine ⟨_, rfl, ?_⟩; obtain ⟨D215_, hdl_, hdg_⟩ := dlt_of hb; have D215_lt := Aside0.mk hdl_; have D215_ge := Aside0.mk hdg_; clear hdl_ hdg_; have n0_ := Aside0.mk (Kd.R_lower (Kd.R_dge ho0 D215_ge.out) (below_size (by repeat (first | (with_reducible first | exact HB.out | apply below_alloc | apply pw_below_drewN | apply below_drew1 | refine below_set ?_ GE164.out) | exact HB.out)))); have n1_ := Aside0.mk (blk_below (g := gb164) (o := .cells #[.slice A0_0 l0_0.length c0_0, .int .i64 a0_1, .int .i64 a0_2] 24 (0, 0)) (by (with_reducible repeat (first | refine blk_drewN ?_ _ | refine blk_drew ?_ | refine blk_alloc ?_ _)); exact BK164.out) hb); have n2_ := Aside0.mk (below_step (by repeat (first | (with_reducible first | exact HB.out | apply below_alloc | apply pw_below_drewN | apply below_drew1 | refine below_set ?_ GE164.out) | exact HB.out)) hb); clear BK164; clear HB; have HO168 := n0_; have BK164 := n1_; have HB := n2_; clear n0_ n1_ n2_; (try clear hb); (try clear hb2); (try clear hk); (try clear hi); (try clear ho0); obtain ⟨Ao15, co15, eo15⟩ := Kd.R_slice HO168.out; subst eo15) | ((with_reducible refine gate_callee (f := 16) rfl ?_); refine goesL_ (some 22) rfl rfl Try.func16 (by kernel_rfl) rfl #[.agg #[.slice Ao15 t166.length co15, .int .i64 t169, .int .i64 t170]] rfl (by (try simp only [List.map_toArray, List.map_cons, List.map_nil]); first | done | rfl | (simp only [List.length_drop, List.length_take]; rfl)) ?_; (with_reducible refine (spec_FirstCamp.calls kj2 _ _ t166 t169 t170 t171 t174 t175 _ ?side1 ?side2 A9.out).mono ?_); (case side1 => repeat (first | exact (Kd.R_reads' HO168.out).2.2 | (with_reducible refine Kd.C_alloc ?_ _) | (with_reducible refine Kd.C_drewN ?_ _) | (with_reducible refine Kd.C_drew ?_))); (case side2 => exact (Kd.R_reads' HO168.out).2.1); rintro e w16 ⟨v172, rfl, ho0, hb⟩; refine ⟨_, rfl, ?_⟩; obtain ⟨D216_, hdl_, hdg_⟩ := dlt_of hb; have D216_lt := Aside0.mk hdl_; have D216_ge := Aside0.mk hdg_; clear hdl_ hdg_; have n0_ := Aside0.mk (Kd.R_below (Kd.R_dlt (by (with_reducible repeat (first | apply Kd.R_alloc | apply Kd.R_drewN | apply Kd.R_drew)); exact HO168.out) D216_lt.out) hb); have n1_ := Aside0.mk (Kd.R_lower (Kd.R_dge ho0 D216_ge.out) (below_size (by repeat (first | (with_reducible first | exact HB.out | apply below_alloc | apply pw_below_drewN | apply below_drew1 | refine below_set ?_ GE164.out) | exact HB.out)))); have n2_ := Aside0.mk (blk_below (g := gb164) (o := .cells #[.slice A0_0 l0_0.length c0_0, .int .i64 a0_1, .int .i64 a0_2] 24 (0, 0)) (by (with_reducible repeat (first | refine blk_drewN ?_ _ | refine blk_drew ?_ | refine blk_alloc ?_ _)); exact BK164.out) hb); have n3_ := Aside0.mk (below_step (by repeat (first | (with_reducible first | exact HB.out | apply below_alloc | apply pw_below_drewN | apply below_drew1 | refine below_set ?_ GE164.out) | exact HB.out)) hb); clear HO168; clear BK164; clear HB; have HO168 := n0_; have HO173 := n1_; have BK164 := n2_; have HB := n3_; clear n0_ n1_ n2_ n3_; (try clear hb); (try clear hb2); (try clear hk); (try clear hi); (try clear ho0)) | ((with_reducible refine gate_dst (N := 4) rfl ?_); refine box_event ?hg (N := 4) ?hd (cs := #[.slice none 0 0, .int .i64 0]) (t := 28) ?hr ?_; (case hd => rfl); (case hg => rfl); (case hr => first | (go_simp; done) | (go_simp; rfl)); intro gb176 hg w17 hbox hb; have n0_ := Aside0.mk (Kd.R_below (by (with_reducible repeat (first | apply Kd.R_alloc | apply Kd.R_drewN | apply Kd.R_drew)); exact HO168.out) hb); have n1_ := Aside0.mk (Kd.R_below (by (with_reducible repeat (first | apply Kd.R_alloc | apply Kd.R_drewN | apply Kd.R_drew)); exact HO173.out) hb); have n2_ := Aside0.mk (blk_below (g := gb164) (o := .cells #[.slice A0_0 l0_0.length c0_0, .int .i64 a0_1, .int .i64 a0_2] 24 (0, 0)) (by (with_reducible repeat (first | refine blk_drewN ?_ _ | refine blk_drew ?_ | refine blk_alloc ?_ _)); exact BK164.out) hb); have n3_ := Aside0.mk (below_step (by repeat (first | (with_reducible first | exact HB.out | apply below_alloc | apply pw_below_drewN | apply below_drew1 | refine below_set ?_ GE164.out) | exact HB.out)) hb); have n4_ := Aside0.mk (hbox); have n5_ := Aside0.mk ((by rw [hg]; exact (below_size (by repeat (first | (with_reducible first | exact HB.out | apply below_alloc | apply pw_below_drewN | apply below_drew1 | refine below_set ?_ GE164.out) | exact HB.out))) : w.heap.size ≤ gb176)); have n6_ := Aside0.mk ((by rw [hg]; exact (below_size (by repeat (first | (with_reducible first | exact HB.out | apply below_alloc | apply pw_below_drewN | apply below_drew1 | refine below_set ?_ GE164.out) | exact HB.out))) : w.heap.size ≤ gb176)); have n7_ := Aside0.mk ((by rw [hg]; exact Nat.ne_of_lt (blk_lt (g := gb164) (o := .cells #[.slice A0_0 l0_0.length c0_0, .int .i64 a0_1, .int .i64 a0_2] 24 (0, 0)) (by (with_reducible repeat (first | refine blk_drewN ?_ _ | refine blk_drew ?_ | refine blk_alloc ?_ _)); exact BK164.out)) : gb164 ≠ gb176)); have n8_ := Aside0.mk ((by rw [hg]; exact Nat.ne_of_gt (blk_lt (g := gb164) (o := .cells #[.slice A0_0 l0_0.length c0_0, .int .i64 a0_1, .int .i64 a0_2] 24 (0, 0)) (by (with_reducible repeat (first | refine blk_drewN ?_ _ | refine blk_drew ?_ | refine blk_alloc ?_ _)); exact BK164.out)) : gb176 ≠ gb164)); clear HO168; clear HO173; clear BK164; clear HB; have HO168 := n0_; have HO173 := n1_; have BK164 := n2_; have HB := n3_; have BK176 := n4_; have GW176 := n5_; have GE176 := n6_; have NB164_176 := n7_; have NB176_164 := n8_; clear n0_ n1_ n2_ n3_ n4_ n5_ n6_ n7_ n8_; clear hb hbox hg; obtain ⟨Ao18, co18, eo18⟩ := Kd.R_slice HO173.out; subst eo18; have hnb19 := NB176_164.out; have hnc19 := NB164_176.out; have hcz20_0 : w17.cell? ⟨gb176, 0, none⟩ = some (.slice none 0 0) := (blk_cell BK176.out 0).trans rfl; have hcz20_1 : w17.cell? ⟨gb176, 1, none⟩ = some (.int .i64 0) := (blk_cell BK176.out 1).trans rfl; have hfz20_0 := blk_frozen BK176.out 0; have hfz20_1 := blk_frozen BK176.out 1; have hcz21_0 : w17.cell? ⟨gb164, 0, none⟩ = some (.slice A0_0 l0_0.length c0_0) := (blk_cell BK164.out 0).trans rfl; have hcz21_1 : w17.cell? ⟨gb164, 1, none⟩ = some (.int .i64 a0_1) := (blk_cell BK164.out 1).trans rfl; have hcz21_2 : w17.cell? ⟨gb164, 2, none⟩ = some (.int .i64 a0_2) := (blk_cell BK164.out 2).trans rfl; have hfz21_0 := blk_frozen BK164.out 0; have hfz21_1 := blk_frozen BK164.out 1; have hfz21_2 := blk_frozen BK164.out 2) | ((with_reducible refine gate_callee (f := 17) rfl ?_); refine goesL_ (some 26) rfl rfl Try.func17 (by kernel_rfl) rfl #[.agg #[.slice A0_0 l0_0.length c0_0, .int .i64 a0_1, .int .i64 a0_2]] rfl (by (try simp only [List.map_toArray, List.map_cons, List.map_nil]); first | done | rfl | (simp only [List.length_drop, List.length_take]; rfl)) ?_; (with_reducible refine (laws_toNight.calls kj2 _ _ l0_0 a0_1 a0_2 t177 t180 t181 _ ?side1 ?side2 A10.out).mono ?_); (case side1 => exact Kd.C_below HR0_0.out (by repeat (first | (with_reducible first | exact HB.out | apply below_alloc | apply pw_below_drewN | apply below_drew1 | refine below_set ?_ GE164.out | refine below_set ?_ GE176.out) | exact HB.out))); (case side2 => exact HC0_0.out); rintro e w22 ⟨v178, rfl, ho0, hb⟩; refine ⟨_, rfl, ?_⟩; obtain ⟨D217_, hdl_, hdg_⟩ := dlt_of hb; have D217_lt := Aside0.mk hdl_; have D217_ge := Aside0.mk hdg_; clear hdl_ hdg_; have n0_ := Aside0.mk (Kd.R_elder' (Kd.R_dlt (by (with_reducible repeat (first | apply Kd.R_alloc | apply Kd.R_drewN | apply Kd.R_drew)); exact (Kd.R_mono (Kd.R_far (p := ⟨gb176, 1, none⟩) (Kd.R_far (p := ⟨gb176, 0, none⟩) (Kd.R_types HO168.out BK176.out (by decide)) (fun _ hk => hk.2) (.slice Ao18 t171.length co18)) (fun _ hk => hk.2) (.int .i64 t174)) (fun _ h_ => h_.1))) D217_lt.out) (Kd.R_base ho0) hb); have n1_ := Aside0.mk (Kd.R_below (Kd.R_dlt (by (with_reducible repeat (first | apply Kd.R_alloc | apply Kd.R_drewN | apply Kd.R_drew)); exact (Kd.R_mono (Kd.R_far (p := ⟨gb176, 1, none⟩) (Kd.R_far (p := ⟨gb176, 0, none⟩) (Kd.R_types HO173.out BK176.out (by decide)) (fun _ hk => hk.2) (.slice Ao18 t171.length co18)) (fun _ hk => hk.2) (.int .i64 t174)) (fun _ h_ => h_.1))) D217_lt.out) hb); have n2_ := Aside0.mk (Kd.R_lower (Kd.R_new' (Kd.R_dge ho0 D217_ge.out) (Kd.R_lt (by (with_reducible repeat (first | apply Kd.R_alloc | apply Kd.R_drewN | apply Kd.R_drew)); exact (Kd.R_mono (Kd.R_far (p := ⟨gb176, 1, none⟩) (Kd.R_far (p := ⟨gb176, 0, none⟩) (Kd.R_types HO168.out BK176.out (by decide)) (fun _ hk => hk.2) (.slice Ao18 t171.length co18)) (fun _ hk => hk.2) (.int .i64 t174)) (fun _ h_ => h_.1))))) (below_size (by repeat (first | (with_reducible first | exact HB.out | apply below_alloc | apply pw_below_drewN | apply below_drew1 | refine below_set ?_ GE164.out | refine below_set ?_ GE176.out) | exact HB.out)))); have n3_ := Aside0.mk (blk_below (g := gb164) (o := .cells #[.slice A0_0 l0_0.length c0_0, .int .i64 a0_1, .int .i64 a0_2] 24 (0, 0)) (by (with_reducible repeat (first | refine blk_drewN ?_ _ | refine blk_drew ?_ | refine blk_alloc ?_ _)); refine blk_far ?_ NB164_176.out _; (with_reducible repeat (first | refine blk_drewN ?_ _ | refine blk_drew ?_ | refine blk_alloc ?_ _)); refine blk_far ?_ NB164_176.out _; (with_reducible repeat (first | refine blk_drewN ?_ _ | refine blk_drew ?_ | refine blk_alloc ?_ _)); exact BK164.out) hb); have n4_ := Aside0.mk (blk_below (g := gb176) (o := .cells #[.slice Ao18 t171.length co18, .int .i64 t174] 28 (0, 0)) (by (with_reducible repeat (first | refine blk_drewN ?_ _ | refine blk_drew ?_ | refine blk_alloc ?_ _)); refine blk_put (cs := #[.slice Ao18 t171.length co18, .int .i64 0]) ?_ 1 _ rfl; (with_reducible repeat (first | refine blk_drewN ?_ _ | refine blk_drew ?_ | refine blk_alloc ?_ _)); refine blk_put (cs := #[.slice none 0 0, .int .i64 0]) ?_ 0 _ rfl; (with_reducible repeat (first | refine blk_drewN ?_ _ | refine blk_drew ?_ | refine blk_alloc ?_ _)); exact BK176.out) hb); have n5_ := Aside0.mk (below_step (by repeat (first | (with_reducible first | exact HB.out | apply below_alloc | apply pw_below_drewN | apply below_drew1 | refine below_set ?_ GE164.out | refine below_set ?_ GE176.out) | exact HB.out)) hb); clear HO168; clear HO173; clear BK164; clear BK176; clear HB; have HO168 := n0_; have HO173 := n1_; have HO179 := n2_; have BK164 := n3_; have BK176 := n4_; have HB := n5_; clear n0_ n1_ n2_ n3_ n4_ n5_; (try clear hb); (try clear hb2); (try clear hk); (try clear hi); (try clear ho0)) | ((with_reducible refine gate_dst (N := 6) rfl ?_); refine box_event ?hg (N := 6) ?hd (cs := #[.slice none 0 0, .int .i64 0, .int .i64 0]) (t := 31) ?hr ?_; (case hd => rfl); (case hg => rfl); (case hr => first | (go_simp; done) | (go_simp; rfl)); intro gb182 hg w23 hbox hb; have n0_ := Aside0.mk (Kd.R_below (by (with_reducible repeat (first | apply Kd.R_alloc | apply Kd.R_drewN | apply Kd.R_drew)); exact HO168.out) hb); have n1_ := Aside0.mk (Kd.R_below (by (with_reducible repeat (first | apply Kd.R_alloc | apply Kd.R_drewN | apply Kd.R_drew)); exact HO173.out) hb); have n2_ := Aside0.mk (Kd.R_below (by (with_reducible repeat (first | apply Kd.R_alloc | apply Kd.R_drewN | apply Kd.R_drew)); exact HO179.out) hb); have n3_ := Aside0.mk (blk_below (g := gb164) (o := .cells #[.slice A0_0 l0_0.length c0_0, .int .i64 a0_1, .int .i64 a0_2] 24 (0, 0)) (by (with_reducible repeat (first | refine blk_drewN ?_ _ | refine blk_drew ?_ | refine blk_alloc ?_ _)); exact BK164.out) hb); have n4_ := Aside0.mk (blk_below (g := gb176) (o := .cells #[.slice Ao18 t171.length co18, .int .i64 t174] 28 (0, 0)) (by (with_reducible repeat (first | refine blk_drewN ?_ _ | refine blk_drew ?_ | refine blk_alloc ?_ _)); exact BK176.out) hb); have n5_ := Aside0.mk (below_step (by repeat (first | (with_reducible first | exact HB.out | apply below_alloc | apply pw_below_drewN | apply below_drew1 | refine below_set ?_ GE164.out | refine below_set ?_ GE176.out) | exact HB.out)) hb); have n6_ := Aside0.mk (hbox); have n7_ := Aside0.mk ((by rw [hg]; exact (below_size (by repeat (first | (with_reducible first | exact HB.out | apply below_alloc | apply pw_below_drewN | apply below_drew1 | refine below_set ?_ GE164.out | refine below_set ?_ GE176.out) | exact HB.out))) : w.heap.size ≤ gb182)); have n8_ := Aside0.mk ((by rw [hg]; exact (below_size (by repeat (first | (with_reducible first | exact HB.out | apply below_alloc | apply pw_below_drewN | apply below_drew1 | refine below_set ?_ GE164.out | refine below_set ?_ GE176.out) | exact HB.out))) : w.heap.size ≤ gb182)); have n9_ := Aside0.mk ((by rw [hg]; exact Nat.ne_of_lt (blk_lt (g := gb164) (o := .cells #[.slice A0_0 l0_0.length c0_0, .int .i64 a0_1, .int .i64 a0_2] 24 (0, 0)) (by (with_reducible repeat (first | refine blk_drewN ?_ _ | refine blk_drew ?_ | refine blk_alloc ?_ _)); exact BK164.out)) : gb164 ≠ gb182)); have n10_ := Aside0.mk ((by rw [hg]; exact Nat.ne_of_gt (blk_lt (g := gb164) (o := .cells #[.slice A0_0 l0_0.length c0_0, .int .i64 a0_1, .int .i64 a0_2] 24 (0, 0)) (by (with_reducible repeat (first | refine blk_drewN ?_ _ | refine blk_drew ?_ | refine blk_alloc ?_ _)); exact BK164.out)) : gb182 ≠ gb164)); have n11_ := Aside0.mk ((by rw [hg]; exact Nat.ne_of_lt (blk_lt (g := gb176) (o := .cells #[.slice Ao18 t171.length co18, .int .i64 t174] 28 (0, 0)) (by (with_reducible repeat (first | refine blk_drewN ?_ _ | refine blk_drew ?_ | refine blk_alloc ?_ _)); exact BK176.out)) : gb176 ≠ gb182)); have n12_ := Aside0.mk ((by rw [hg]; exact Nat.ne_of_gt (blk_lt (g := gb176) (o := .cells #[.slice Ao18 t171.length co18, .int .i64 t174] 28 (0, 0)) (by (with_reducible repeat (first | refine blk_drewN ?_ _ | refine blk_drew ?_ | refine blk_alloc ?_ _)); exact BK176.out)) : gb182 ≠ gb176)); clear HO168; clear HO173; clear HO179; clear BK164; clear BK176; clear HB; have HO168 := n0_; have HO173 := n1_; have HO179 := n2_; have BK164 := n3_; have BK176 := n4_; have HB := n5_; have BK182 := n6_; have GW182 := n7_; have GE182 := n8_; have NB164_182 := n9_; have NB182_164 := n10_; have NB176_182 := n11_; have NB182_176 := n12_; clear n0_ n1_ n2_ n3_ n4_ n5_ n6_ n7_ n8_ n9_ n10_ n11_ n12_; clear hb hbox hg; obtain ⟨Ao24, co24, eo24⟩ := Kd.R_slice HO179.out; subst eo24; have hnb25 := NB182_164.out; have hnc25 := NB164_182.out; have hnb26 := NB182_176.out; have hnc26 := NB176_182.out; have hcz27_0 : w23.cell? ⟨gb182, 0, none⟩ = some (.slice none 0 0) := (blk_cell BK182.out 0).trans rfl; have hcz27_1 : w23.cell? ⟨gb182, 1, none⟩ = some (.int .i64 0) := (blk_cell BK182.out 1).trans rfl; have hcz27_2 : w23.cell? ⟨gb182, 2, none⟩ = some (.int .i64 0) := (blk_cell BK182.out 2).trans rfl; have hfz27_0 := blk_frozen BK182.out 0; have hfz27_1 := blk_frozen BK182.out 1; have hfz27_2 := blk_frozen BK182.out 2) | ((with_reducible refine gate_callee (f := 18) rfl ?_); refine goesL_ (some 29) rfl rfl Try.func18 (by kernel_rfl) rfl #[.agg #[.slice Ao24 t177.length co24, .int .i64 t180, .int .i64 t181]] rfl (by (try simp only [List.map_toArray, List.map_cons, List.map_nil]); first | done | rfl | (simp only [List.length_drop, List.length_take]; rfl)) ?_; (with_reducible refine (impl_FirstCamp.calls _ _ t177 t180 t181 t183 t186 t187 _ ?side1 ?side2 A11.out).mono ?_); (case side1 => refine (Kd.R_reads' (e := 3) (base := w.heap.size) (ok := fun k_ => ((True ∧ ¬ D217_ k_) ∧ some k_ ≠ (.slice Ao15 t166.length co15 : Value).ownBlock)) (n := t177.length) (c := co24) ?_).2.2; exact (by (with_reducible repeat (first | apply Kd.R_alloc | apply Kd.R_drewN | apply Kd.R_drew)); exact (Kd.R_mono (Kd.R_far (p := ⟨gb182, 2, none⟩) (Kd.R_far (p := ⟨gb182, 1, none⟩) (Kd.R_far (p := ⟨gb182, 0, none⟩) (Kd.R_types HO179.out BK182.out (by decide)) (fun _ hk => hk.2) (.slice Ao24 t177.length co24)) (fun _ hk => hk.2) (.int .i64 t180)) (fun _ hk => hk.2) (.int .i64 t181)) (fun _ h_ => h_.1)))); (case side2 => exact (Kd.R_reads' HO179.out).2.1); rintro e w28 ⟨v184, rfl, ho0, hb⟩; refine ⟨_, rfl, ?_⟩; obtain ⟨D218_, hdl_, hdg_⟩ := dlt_of hb; have D218_lt := Aside0.mk hdl_; have D218_ge := Aside0.mk hdg_; clear hdl_ hdg_; have n0_ := Aside0.mk (Kd.R_below (Kd.R_dlt (by (with_reducible repeat (first | apply Kd.R_alloc | apply Kd.R_drewN | apply Kd.R_drew)); exact (Kd.R_mono (Kd.R_far (p := ⟨gb182, 2, none⟩) (Kd.R_far (p := ⟨gb182, 1, none⟩) (Kd.R_far (p := ⟨gb182, 0, none⟩) (Kd.R_types HO168.out BK182.out (by decide)) (fun _ hk => hk.2) (.slice Ao24 t177.length co24)) (fun _ hk => hk.2) (.int .i64 t180)) (fun _ hk => hk.2) (.int .i64 t181)) (fun _ h_ => h_.1))) D218_lt.out) hb); have n1_ := Aside0.mk (Kd.R_elder' (Kd.R_dlt (by (with_reducible repeat (first | apply Kd.R_alloc | apply Kd.R_drewN | apply Kd.R_drew)); exact (Kd.R_mono (Kd.R_far (p := ⟨gb182, 2, none⟩) (Kd.R_far (p := ⟨gb182, 1, none⟩) (Kd.R_far (p := ⟨gb182, 0, none⟩) (Kd.R_types HO173.out BK182.out (by decide)) (fun _ hk => hk.2) (.slice Ao24 t177.length co24)) (fun _ hk => hk.2) (.int .i64 t180)) (fun _ hk => hk.2) (.int .i64 t181)) (fun _ h_ => h_.1))) D218_lt.out) (Kd.R_base ho0) hb); have n2_ := Aside0.mk (Kd.R_below (Kd.R_dlt (by (with_reducible repeat (first | apply Kd.R_alloc | apply Kd.R_drewN | apply Kd.R_drew)); exact (Kd.R_mono (Kd.R_far (p := ⟨gb182, 2, none⟩) (Kd.R_far (p := ⟨gb182, 1, none⟩) (Kd.R_far (p := ⟨gb182, 0, none⟩) (Kd.R_types HO179.out BK182.out (by decide)) (fun _ hk => hk.2) (.slice Ao24 t177.length co24)) (fun _ hk => hk.2) (.int .i64 t180)) (fun _ hk => hk.2) (.int .i64 t181)) (fun _ h_ => h_.1))) D218_lt.out) hb); have n3_ := Aside0.mk (Kd.R_lower (Kd.R_new' (Kd.R_dge ho0 D218_ge.out) (Kd.R_lt (by (with_reducible repeat (first | apply Kd.R_alloc | apply Kd.R_drewN | apply Kd.R_drew)); exact (Kd.R_mono (Kd.R_far (p := ⟨gb182, 2, none⟩) (Kd.R_far (p := ⟨gb182, 1, none⟩) (Kd.R_far (p := ⟨gb182, 0, none⟩) (Kd.R_types HO173.out BK182.out (by decide)) (fun _ hk => hk.2) (.slice Ao24 t177.length co24)) (fun _ hk => hk.2) (.int .i64 t180)) (fun _ hk => hk.2) (.int .i64 t181)) (fun _ h_ => h_.1))))) (below_size (by repeat (first | (with_reducible first | exact HB.out | apply below_alloc | apply pw_below_drewN | apply below_drew1 | refine below_set ?_ GE164.out | refine below_set ?_ GE176.out | refine below_set ?_ GE182.out) | exact HB.out)))); have n4_ := Aside0.mk (blk_below (g := gb164) (o := .cells #[.slice A0_0 l0_0.length c0_0, .int .i64 a0_1, .int .i64 a0_2] 24 (0, 0)) (by (with_reducible repeat (first | refine blk_drewN ?_ _ | refine blk_drew ?_ | refine blk_alloc ?_ _)); refine blk_far ?_ NB164_182.out _; (with_reducible repeat (first | refine blk_drewN ?_ _ | refine blk_drew ?_ | refine blk_alloc ?_ _)); refine blk_far ?_ NB164_182.out _; (with_reducible repeat (first | refine blk_drewN ?_ _ | refine blk_drew ?_ | refine blk_alloc ?_ _)); refine blk_far ?_ NB164_182.out _; (with_reducible repeat (first | refine blk_drewN ?_ _ | refine blk_drew ?_ | refine blk_alloc ?_ _)); exact BK164.out) hb); have n5_ := Aside0.mk (blk_below (g := gb176) (o := .cells #[.slice Ao18 t171.length co18, .int .i64 t174] 28 (0, 0)) (by (with_reducible repeat (first | refine blk_drewN ?_ _ | refine blk_drew ?_ | refine blk_alloc ?_ _)); refine blk_far ?_ NB176_182.out _; (with_reducible repeat (first | refine blk_drewN ?_ _ | refine blk_drew ?_ | refine blk_alloc ?_ _)); refine blk_far ?_ NB176_182.out _; (with_reducible repeat (first | refine blk_drewN ?_ _ | refine blk_drew ?_ | refine blk_alloc ?_ _)); refine blk_far ?_ NB176_182.out _; (with_reducible repeat (first | refine blk_drewN ?_ _ | refine blk_drew ?_ | refine blk_alloc ?_ _)); exact BK176.out) hb); have n6_ := Aside0.mk (blk_below (g := gb182) (o := .cells #[.slice Ao24 t177.length co24, .int .i64 t180, .int .i64 t181] 31 (0, 0)) (by (with_reducible repeat (first | refine blk_drewN ?_ _ | refine blk_drew ?_ | refine blk_alloc ?_ _)); refine blk_put (cs := #[.slice Ao24 t177.length co24, .int .i64 t180, .int .i64 0]) ?_ 2 _ rfl; (with_reducible repeat (first | refine blk_drewN ?_ _ | refine blk_drew ?_ | refine blk_alloc ?_ _)); refine blk_put (cs := #[.slice Ao24 t177.length co24, .int .i64 0, .int .i64 0]) ?_ 1 _ rfl; (with_reducible repeat (first | refine blk_drewN ?_ _ | refine blk_drew ?_ | refine blk_alloc ?_ _)); refine blk_put (cs := #[.slice none 0 0, .int .i64 0, .int .i64 0]) ?_ 0 _ rfl; (with_reducible repeat (first | refine blk_drewN ?_ _ | refine blk_drew ?_ | refine blk_alloc ?_ _)); exact BK182.out) hb); have n7_ := Aside0.mk (below_step (by repeat (first | (with_reducible first | exact HB.out | apply below_alloc | apply pw_below_drewN | apply below_drew1 | refine below_set ?_ GE164.out | refine below_set ?_ GE176.out | refine below_set ?_ GE182.out) | exact HB.out)) hb); clear HO168; clear HO173; clear HO179; clear BK164; clear BK176; clear BK182; clear HB; have HO168 := n0_; have HO173 := n1_; have HO179 := n2_; have HO185 := n3_; have BK164 := n4_; have BK176 := n5_; have BK182 := n6_; have HB := n7_; clear n0_ n1_ n2_ n3_ n4_ n5_ n6_ n7_; (try clear hb); (try clear hb2); (try clear hk); (try clear hi); (try clear ho0)) | ((with_reducible refine gate_dst (N := 7) rfl ?_); refine box_event ?hg (N := 7) ?hd (cs := #[.slice none 0 0, .int .i64 0]) (t := 28) ?hr ?_; (case hd => rfl); (case hg => rfl); (case hr => first | (go_simp; done) | (go_simp; rfl)); intro gb188 hg w29 hbox hb; have n0_ := Aside0.mk (Kd.R_below (by (with_reducible repeat (first | apply Kd.R_alloc | apply Kd.R_drewN | apply Kd.R_drew)); exact HO168.out) hb); have n1_ := Aside0.mk (Kd.R_below (by (with_reducible repeat (first | apply Kd.R_alloc | apply Kd.R_drewN | apply Kd.R_drew)); exact HO173.out) hb); have n2_ := Aside0.mk (Kd.R_below (by (with_reducible repeat (first | apply Kd.R_alloc | apply Kd.R_drewN | apply Kd.R_drew)); exact HO179.out) hb); have n3_ := Aside0.mk (Kd.R_below (by (with_reducible repeat (first | apply Kd.R_alloc | apply Kd.R_drewN | apply Kd.R_drew)); exact HO185.out) hb); have n4_ := Aside0.mk (blk_below (g := gb164) (o := .cells #[.slice A0_0 l0_0.length c0_0, .int .i64 a0_1, .int .i64 a0_2] 24 (0, 0)) (by (with_reducible repeat (first | refine blk_drewN ?_ _ | refine blk_drew ?_ | refine blk_alloc ?_ _)); exact BK164.out) hb); have n5_ := Aside0.mk (blk_below (g := gb176) (o := .cells #[.slice Ao18 t171.length co18, .int .i64 t174] 28 (0, 0)) (by (with_reducible repeat (first | refine blk_drewN ?_ _ | refine blk_drew ?_ | refine blk_alloc ?_ _)); exact BK176.out) hb); have n6_ := Aside0.mk (blk_below (g := gb182) (o := .cells #[.slice Ao24 t177.length co24, .int .i64 t180, .int .i64 t181] 31 (0, 0)) (by (with_reducible repeat (first | refine blk_drewN ?_ _ | refine blk_drew ?_ | refine blk_alloc ?_ _)); exact BK182.out) hb); have n7_ := Aside0.mk (below_step (by repeat (first | (with_reducible first | exact HB.out | apply below_alloc | apply pw_below_drewN | apply below_drew1 | refine below_set ?_ GE164.out | refine below_set ?_ GE176.out | refine below_set ?_ GE182.out) | exact HB.out)) hb); have n8_ := Aside0.mk (hbox); have n9_ := Aside0.mk ((by rw [hg]; exact (below_size (by repeat (first | (with_reducible first | exact HB.out | apply below_alloc | apply pw_below_drewN | apply below_drew1 | refine below_set ?_ GE164.out | refine below_set ?_ GE176.out | refine below_set ?_ GE182.out) | exact HB.out))) : w.heap.size ≤ gb188)); have n10_ := Aside0.mk ((by rw [hg]; exact (below_size (by repeat (first | (with_reducible first | exact HB.out | apply below_alloc | apply pw_below_drewN | apply below_drew1 | refine below_set ?_ GE164.out | refine below_set ?_ GE176.out | refine below_set ?_ GE182.out) | exact HB.out))) : w.heap.size ≤ gb188)); have n11_ := Aside0.mk ((by rw [hg]; exact Nat.ne_of_lt (blk_lt (g := gb164) (o := .cells #[.slice A0_0 l0_0.length c0_0, .int .i64 a0_1, .int .i64 a0_2] 24 (0, 0)) (by (with_reducible repeat (first | refine blk_drewN ?_ _ | refine blk_drew ?_ | refine blk_alloc ?_ _)); exact BK164.out)) : gb164 ≠ gb188)); have n12_ := Aside0.mk ((by rw [hg]; exact Nat.ne_of_gt (blk_lt (g := gb164) (o := .cells #[.slice A0_0 l0_0.length c0_0, .int .i64 a0_1, .int .i64 a0_2] 24 (0, 0)) (by (with_reducible repeat (first | refine blk_drewN ?_ _ | refine blk_drew ?_ | refine blk_alloc ?_ _)); exact BK164.out)) : gb188 ≠ gb164)); have n13_ := Aside0.mk ((by rw [hg]; exact Nat.ne_of_lt (blk_lt (g := gb176) (o := .cells #[.slice Ao18 t171.length co18, .int .i64 t174] 28 (0, 0)) (by (with_reducible repeat (first | refine blk_drewN ?_ _ | refine blk_drew ?_ | refine blk_alloc ?_ _)); exact BK176.out)) : gb176 ≠ gb188)); have n14_ := Aside0.mk ((by rw [hg]; exact Nat.ne_of_gt (blk_lt (g := gb176) (o := .cells #[.slice Ao18 t171.length co18, .int .i64 t174] 28 (0, 0)) (by (with_reducible repeat (first | refine blk_drewN ?_ _ | refine blk_drew ?_ | refine blk_alloc ?_ _)); exact BK176.out)) : gb188 ≠ gb176)); have n15_ := Aside0.mk ((by rw [hg]; exact Nat.ne_of_lt (blk_lt (g := gb182) (o := .cells #[.slice Ao24 t177.length co24, .int .i64 t180, .int .i64 t181] 31 (0, 0)) (by (with_reducible repeat (first | refine blk_drewN ?_ _ | refine blk_drew ?_ | refine blk_alloc ?_ _)); exact BK182.out)) : gb182 ≠ gb188)); have n16_ := Aside0.mk ((by rw [hg]; exact Nat.ne_of_gt (blk_lt (g := gb182) (o := .cells #[.slice Ao24 t177.length co24, .int .i64 t180, .int .i64 t181] 31 (0, 0)) (by (with_reducible repeat (first | refine blk_drewN ?_ _ | refine blk_drew ?_ | refine blk_alloc ?_ _)); exact BK182.out)) : gb188 ≠ gb182)); clear HO168; clear HO173; clear HO179; clear HO185; clear BK164; clear BK176; clear BK182; clear HB; have HO168 := n0_; have HO173 := n1_; have HO179 := n2_; have HO185 := n3_; have BK164 := n4_; have BK176 := n5_; have BK182 := n6_; have HB := n7_; have BK188 := n8_; have GW188 := n9_; have GE188 := n10_; have NB164_188 := n11_; have NB188_164 := n12_; have NB176_188 := n13_; have NB188_176 := n14_; have NB182_188 := n15_; have NB188_182 := n16_; clear n0_ n1_ n2_ n3_ n4_ n5_ n6_ n7_ n8_ n9_ n10_ n11_ n12_ n13_ n14_ n15_ n16_; clear hb hbox hg; obtain ⟨Ao30, co30, eo30⟩ := Kd.R_slice HO185.out; subst eo30; have hnb31 := NB188_164.out; have hnc31 := NB164_188.out; have hnb32 := NB188_176.out; have hnc32 := NB176_188.out; have hnb33 := NB188_182.out; have hnc33 := NB182_188.out; have hcz34_0 : w29.cell? ⟨gb188, 0, none⟩ = some (.slice none 0 0) := (blk_cell BK188.out 0).trans rfl; have hcz34_1 : w29.cell? ⟨gb188, 1, none⟩ = some (.int .i64 0) := (blk_cell BK188.out 1).trans rfl; have hfz34_0 := blk_frozen BK188.out 0; have hfz34_1 := blk_frozen BK188.out 1))
      (try simp only [Act.put, List.setIfInBounds_toArray, List.set_cons_zero, List.set_cons_succ])
      go_cut [40] (fun v40 wc => ∃ (kq : Nat) (x40_11 : Bool), v40 = .bool x40_11 ∧ Aside0 (laws_FnExactFirstCamp.j1 kq t175 t187 x40_11 l0_0 a0_1 a0_2 t171 t174 t177 t180 t181 t183 t186 = some r) ∧ Aside0 (kq ≤ kj2) ∧ Aside0 (Kd.R Kd.bool 4 wc w.heap.size (fun k_ => some k_ ≠ ((.slice Ao30 t183.length co30) : Value).ownBlock ∧ ¬ D216_ k_ ∧ D217_ k_ ∧ D218_ k_) (.slice Ao18 t171.length co18) t171) ∧ Aside0 (Kd.R (Kd.int .i64) 3 wc w.heap.size (fun k_ => ¬ D217_ k_ ∧ D218_ k_) (.slice Ao24 t177.length co24) t177) ∧ Aside0 (Kd.R Kd.bool 4 wc w.heap.size (fun k_ => some k_ ≠ ((.slice Ao18 t171.length co18) : Value).ownBlock ∧ ¬ D218_ k_) (.slice Ao30 t183.length co30) t183) ∧ Aside0 (wc.heap[gb164]? = some (.cells #[(.slice A0_0 l0_0.length c0_0), .int .i64 a0_1, .int .i64 a0_2] 24 (0, 0))) ∧ Aside0 (wc.heap[gb176]? = some (.cells #[(.slice Ao18 t171.length co18), .int .i64 t174] 28 (0, 0))) ∧ Aside0 (wc.heap[gb182]? = some (.cells #[(.slice Ao24 t177.length co24), .int .i64 t180, .int .i64 t181] 31 (0, 0))) ∧ Aside0 (wc.heap[gb188]? = some (.cells #[(.slice Ao30 t183.length co30), .int .i64 t186] 28 (0, 0))) ∧ Aside0 (Below w.heap.size w wc))
      case first =>
        have H := HC12.out
        clear HC12
        replace H := Option.bind_eq_some_iff.mp H
        obtain ⟨t189, A350, H⟩ := H
        replace H : (if t189 = true then (laws_FnExactFirstCamp.j1 kj2 t175 t187 (t187 != t175) l0_0 a0_1 a0_2 t171 t174 t177 t180 t181 t183 t186) else (laws_FnExactFirstCamp.j1 kj2 t175 t187 true l0_0 a0_1 a0_2 t171 t174 t177 t180 t181 t183 t186)) = some r := H
        have A35 := Aside0.mk A350
        clear A350
        by_cases c36 : t189 = true
        · subst c36
          have H1 : (laws_FnExactFirstCamp.j1 kj2 t175 t187 (t187 != t175) l0_0 a0_1 a0_2 t171 t174 t177 t180 t181 t183 t186) = some r := by rw [if_pos rfl] at H; exact H
          clear H
          have H := H1
          clear H1
          have H' := Aside0.mk H
          clear H
          have hnb37 := NB188_164.out
          have hnc37 := NB164_188.out
          have hnb38 := NB188_176.out
          have hnc38 := NB176_188.out
          have hnb39 := NB188_182.out
          have hnc39 := NB182_188.out
          have hcz40_0 : w29.cell? ⟨gb188, 0, none⟩ = some (.slice none 0 0) := (blk_cell BK188.out 0).trans rfl
          have hcz40_1 : w29.cell? ⟨gb188, 1, none⟩ = some (.int .i64 0) := (blk_cell BK188.out 1).trans rfl
          have hfz40_0 := blk_frozen BK188.out 0
          have hfz40_1 := blk_frozen BK188.out 1
          have hnb41 := NB176_164.out
          have hnc41 := NB164_176.out
          have hnb42 := NB176_182.out
          have hnc42 := NB182_176.out
          have hcz43_0 : w29.cell? ⟨gb176, 0, none⟩ = some (.slice Ao18 t171.length co18) := (blk_cell BK176.out 0).trans rfl
          have hcz43_1 : w29.cell? ⟨gb176, 1, none⟩ = some (.int .i64 t174) := (blk_cell BK176.out 1).trans rfl
          have hfz43_0 := blk_frozen BK176.out 0
          have hfz43_1 := blk_frozen BK176.out 1
          go_wp2_with (first | ((with_reducible refine gate_callee (f := 19) rfl ?_); refine goesL_ (some 34) rfl rfl Try.func19 (by kernel_rfl) rfl #[.agg #[.slice Ao30 t183.length co30, .int .i64 t186], .agg #[.slice Ao18 t171.length co18, .int .i64 t174]] rfl (by (try simp only [List.map_toArray, List.map_cons, List.map_nil]); first | done | rfl | (simp only [List.length_drop, List.length_take]; rfl)) ?_; (with_reducible refine (laws_eqCamp.calls kj2 _ _ t183 t186 _ _ t171 t174 true _ ?side1 ?side2 ?side3 ?side4 A35.out).mono ?_); (case side1 => refine (Kd.R_reads' (e := 4) (base := w.heap.size) (ok := fun k_ => ((True ∧ ¬ D218_ k_) ∧ some k_ ≠ (.slice Ao18 t171.length co18 : Value).ownBlock)) (n := t183.length) (c := co30) ?_).2.2; exact (by (with_reducible repeat (first | apply Kd.R_alloc | apply Kd.R_drewN | apply Kd.R_drew)); exact (Kd.R_mono (Kd.R_far (p := ⟨gb188, 1, none⟩) (Kd.R_far (p := ⟨gb188, 0, none⟩) (Kd.R_types HO185.out BK188.out (by decide)) (fun _ hk => hk.2) (.slice Ao30 t183.length co30)) (fun _ hk => hk.2) (.int .i64 t186)) (fun _ h_ => h_.1)))); (case side2 => exact (Kd.R_reads' HO185.out).2.1); (case side3 => refine (Kd.R_reads' (e := 4) (base := w.heap.size) (ok := fun k_ => ((((True ∧ ¬ D216_ k_) ∧ D217_ k_) ∧ D218_ k_) ∧ some k_ ≠ (.slice Ao30 t183.length co30 : Value).ownBlock)) (n := t171.length) (c := co18) ?_).2.2; exact (by (with_reducible repeat (first | apply Kd.R_alloc | apply Kd.R_drewN | apply Kd.R_drew)); exact (Kd.R_mono (Kd.R_far (p := ⟨gb188, 1, none⟩) (Kd.R_far (p := ⟨gb188, 0, none⟩) (Kd.R_types HO173.out BK188.out (by decide)) (fun _ hk => hk.2) (.slice Ao30 t183.length co30)) (fun _ hk => hk.2) (.int .i64 t186)) (fun _ h_ => h_.1)))); (case side4 => exact (Kd.R_reads' HO173.out).2.1); rintro e w44 ⟨rfl, hb⟩; refine ⟨_, rfl, ?_⟩; have n0_ := Aside0.mk (Kd.R_below (by (with_reducible repeat (first | apply Kd.R_alloc | apply Kd.R_drewN | apply Kd.R_drew)); exact (Kd.R_mono (Kd.R_far (p := ⟨gb188, 1, none⟩) (Kd.R_far (p := ⟨gb188, 0, none⟩) (Kd.R_types HO168.out BK188.out (by decide)) (fun _ hk => hk.2) (.slice Ao30 t183.length co30)) (fun _ hk => hk.2) (.int .i64 t186)) (fun _ h_ => h_.1))) hb); have n1_ := Aside0.mk (Kd.R_below (by (with_reducible repeat (first | apply Kd.R_alloc | apply Kd.R_drewN | apply Kd.R_drew)); exact (Kd.R_mono (Kd.R_far (p := ⟨gb188, 1, none⟩) (Kd.R_far (p := ⟨gb188, 0, none⟩) (Kd.R_types HO173.out BK188.out (by decide)) (fun _ hk => hk.2) (.slice Ao30 t183.length co30)) (fun _ hk => hk.2) (.int .i64 t186)) (fun _ h_ => h_.1))) hb); have n2_ := Aside0.mk (Kd.R_below (by (with_reducible repeat (first | apply Kd.R_alloc | apply Kd.R_drewN | apply Kd.R_drew)); exact (Kd.R_mono (Kd.R_far (p := ⟨gb188, 1, none⟩) (Kd.R_far (p := ⟨gb188, 0, none⟩) (Kd.R_types HO179.out BK188.out (by decide)) (fun _ hk => hk.2) (.slice Ao30 t183.length co30)) (fun _ hk => hk.2) (.int .i64 t186)) (fun _ h_ => h_.1))) hb); have n3_ := Aside0.mk (Kd.R_below (by (with_reducible repeat (first | apply Kd.R_alloc | apply Kd.R_drewN | apply Kd.R_drew)); exact (Kd.R_mono (Kd.R_far (p := ⟨gb188, 1, none⟩) (Kd.R_far (p := ⟨gb188, 0, none⟩) (Kd.R_types HO185.out BK188.out (by decide)) (fun _ hk => hk.2) (.slice Ao30 t183.length co30)) (fun _ hk => hk.2) (.int .i64 t186)) (fun _ h_ => h_.1))) hb); have n4_ := Aside0.mk (blk_below (g := gb164) (o := .cells #[.slice A0_0 l0_0.length c0_0, .int .i64 a0_1, .int .i64 a0_2] 24 (0, 0)) (by (with_reducible repeat (first | refine blk_drewN ?_ _ | refine blk_drew ?_ | refine blk_alloc ?_ _)); refine blk_far ?_ NB164_188.out _; (with_reducible repeat (first | refine blk_drewN ?_ _ | refine blk_drew ?_ | refine blk_alloc ?_ _)); refine blk_far ?_ NB164_188.out _; (with_reducible repeat (first | refine blk_drewN ?_ _ | refine blk_drew ?_ | refine blk_alloc ?_ _)); exact BK164.out) hb); have n5_ := Aside0.mk (blk_below (g := gb176) (o := .cells #[.slice Ao18 t171.length co18, .int .i64 t174] 28 (0, 0)) (by (with_reducible repeat (first | refine blk_drewN ?_ _ | refine blk_drew ?_ | refine blk_alloc ?_ _)); refine blk_far ?_ NB176_188.out _; (with_reducible repeat (first | refine blk_drewN ?_ _ | refine blk_drew ?_ | refine blk_alloc ?_ _)); refine blk_far ?_ NB176_188.out _; (with_reducible repeat (first | refine blk_drewN ?_ _ | refine blk_drew ?_ | refine blk_alloc ?_ _)); exact BK176.out) hb); have n6_ := Aside0.mk (blk_below (g := gb182) (o := .cells #[.slice Ao24 t177.length co24, .int .i64 t180, .int .i64 t181] 31 (0, 0)) (by (with_reducible repeat (first | refine blk_drewN ?_ _ | refine blk_drew ?_ | refine blk_alloc ?_ _)); refine blk_far ?_ NB182_188.out _; (with_reducible repeat (first | refine blk_drewN ?_ _ | refine blk_drew ?_ | refine blk_alloc ?_ _)); refine blk_far ?_ NB182_188.out _; (with_reducible repeat (first | refine blk_drewN ?_ _ | refine blk_drew ?_ | refine blk_alloc ?_ _)); exact BK182.out) hb); have n7_ := Aside0.mk (blk_below (g := gb188) (o := .cells #[.slice Ao30 t183.length co30, .int .i64 t186] 28 (0, 0)) (by (with_reducible repeat (first | refine blk_drewN ?_ _ | refine blk_drew ?_ | refine blk_alloc ?_ _)); refine blk_put (cs := #[.slice Ao30 t183.length co30, .int .i64 0]) ?_ 1 _ rfl; (with_reducible repeat (first | refine blk_drewN ?_ _ | refine blk_drew ?_ | refine blk_alloc ?_ _)); refine blk_put (cs := #[.slice none 0 0, .int .i64 0]) ?_ 0 _ rfl; (with_reducible repeat (first | refine blk_drewN ?_ _ | refine blk_drew ?_ | refine blk_alloc ?_ _)); exact BK188.out) hb); have n8_ := Aside0.mk (below_step (by repeat (first | (with_reducible first | exact HB.out | apply below_alloc | apply pw_below_drewN | apply below_drew1 | refine below_set ?_ GE164.out | refine below_set ?_ GE176.out | refine below_set ?_ GE182.out | refine below_set ?_ GE188.out) | exact HB.out)) hb); clear HO168; clear HO173; clear HO179; clear HO185; clear BK164; clear BK176; clear BK182; clear BK188; clear HB; have HO168 := n0_; have HO173 := n1_; have HO179 := n2_; have HO185 := n3_; have BK164 := n4_; have BK176 := n5_; have BK182 := n6_; have BK188 := n7_; have HB := n8_; clear n0_ n1_ n2_ n3_ n4_ n5_ n6_ n7_ n8_; (try clear hb); (try clear hb2); (try clear hk); (try clear hi)))
          go_meet
          case rel => exact ⟨_, ((t187 != t175)), (by first | rfl | (simp; done) | (simp [*]; done)), H', ⟨by have := HJ2.out; first | omega | exact Nat.le_refl _⟩, ⟨by (with_reducible repeat (first | apply Kd.R_alloc | apply Kd.R_drewN | apply Kd.R_drew)); exact Kd.R_mono HO173.out (fun _ hk => ⟨hk.2, ⟨hk.1.1.1.2, ⟨hk.1.1.2, hk.1.2⟩⟩⟩)⟩, ⟨by (with_reducible repeat (first | apply Kd.R_alloc | apply Kd.R_drewN | apply Kd.R_drew)); exact Kd.R_mono HO179.out (fun _ hk => ⟨hk.1.1.2, hk.2⟩)⟩, ⟨by (with_reducible repeat (first | apply Kd.R_alloc | apply Kd.R_drewN | apply Kd.R_drew)); exact Kd.R_mono HO185.out (fun _ hk => ⟨hk.2, hk.1.2⟩)⟩, ⟨by (with_reducible repeat (first | refine blk_drewN ?_ _ | refine blk_drew ?_ | refine blk_alloc ?_ _)); exact BK164.out⟩, ⟨by (with_reducible repeat (first | refine blk_drewN ?_ _ | refine blk_drew ?_ | refine blk_alloc ?_ _)); exact BK176.out⟩, ⟨by (with_reducible repeat (first | refine blk_drewN ?_ _ | refine blk_drew ?_ | refine blk_alloc ?_ _)); exact BK182.out⟩, ⟨by (with_reducible repeat (first | refine blk_drewN ?_ _ | refine blk_drew ?_ | refine blk_alloc ?_ _)); exact BK188.out⟩, ⟨by repeat (first | (with_reducible first | exact HB.out | apply below_alloc | apply pw_below_drewN | apply below_drew1 | refine below_set ?_ GE164.out | refine below_set ?_ GE176.out | refine below_set ?_ GE182.out | refine below_set ?_ GE188.out) | exact HB.out)⟩⟩
        · replace c36 := Bool.eq_false_iff.mpr c36
          subst c36
          have H1 : (laws_FnExactFirstCamp.j1 kj2 t175 t187 true l0_0 a0_1 a0_2 t171 t174 t177 t180 t181 t183 t186) = some r := by rw [if_neg (show ¬ (false = true) by decide)] at H; exact H
          clear H
          have H := H1
          clear H1
          have H' := Aside0.mk H
          clear H
          have hnb45 := NB188_164.out
          have hnc45 := NB164_188.out
          have hnb46 := NB188_176.out
          have hnc46 := NB176_188.out
          have hnb47 := NB188_182.out
          have hnc47 := NB182_188.out
          have hcz48_0 : w29.cell? ⟨gb188, 0, none⟩ = some (.slice none 0 0) := (blk_cell BK188.out 0).trans rfl
          have hcz48_1 : w29.cell? ⟨gb188, 1, none⟩ = some (.int .i64 0) := (blk_cell BK188.out 1).trans rfl
          have hfz48_0 := blk_frozen BK188.out 0
          have hfz48_1 := blk_frozen BK188.out 1
          have hnb49 := NB176_164.out
          have hnc49 := NB164_176.out
          have hnb50 := NB176_182.out
          have hnc50 := NB182_176.out
          have hcz51_0 : w29.cell? ⟨gb176, 0, none⟩ = some (.slice Ao18 t171.length co18) := (blk_cell BK176.out 0).trans rfl
          have hcz51_1 : w29.cell? ⟨gb176, 1, none⟩ = some (.int .i64 t174) := (blk_cell BK176.out 1).trans rfl
          have hfz51_0 := blk_frozen BK176.out 0
          have hfz51_1 := blk_frozen BK176.out 1
          go_wp2_with (first | ((with_reducible refine gate_callee (f := 19) rfl ?_); refine goesL_ (some 34) rfl rfl Try.func19 (by kernel_rfl) rfl #[.agg #[.slice Ao30 t183.length co30, .int .i64 t186], .agg #[.slice Ao18 t171.length co18, .int .i64 t174]] rfl (by (try simp only [List.map_toArray, List.map_cons, List.map_nil]); first | done | rfl | (simp only [List.length_drop, List.length_take]; rfl)) ?_; (with_reducible refine (laws_eqCamp.calls kj2 _ _ t183 t186 _ _ t171 t174 false _ ?side1 ?side2 ?side3 ?side4 A35.out).mono ?_); (case side1 => refine (Kd.R_reads' (e := 4) (base := w.heap.size) (ok := fun k_ => ((True ∧ ¬ D218_ k_) ∧ some k_ ≠ (.slice Ao18 t171.length co18 : Value).ownBlock)) (n := t183.length) (c := co30) ?_).2.2; exact (by (with_reducible repeat (first | apply Kd.R_alloc | apply Kd.R_drewN | apply Kd.R_drew)); exact (Kd.R_mono (Kd.R_far (p := ⟨gb188, 1, none⟩) (Kd.R_far (p := ⟨gb188, 0, none⟩) (Kd.R_types HO185.out BK188.out (by decide)) (fun _ hk => hk.2) (.slice Ao30 t183.length co30)) (fun _ hk => hk.2) (.int .i64 t186)) (fun _ h_ => h_.1)))); (case side2 => exact (Kd.R_reads' HO185.out).2.1); (case side3 => refine (Kd.R_reads' (e := 4) (base := w.heap.size) (ok := fun k_ => ((((True ∧ ¬ D216_ k_) ∧ D217_ k_) ∧ D218_ k_) ∧ some k_ ≠ (.slice Ao30 t183.length co30 : Value).ownBlock)) (n := t171.length) (c := co18) ?_).2.2; exact (by (with_reducible repeat (first | apply Kd.R_alloc | apply Kd.R_drewN | apply Kd.R_drew)); exact (Kd.R_mono (Kd.R_far (p := ⟨gb188, 1, none⟩) (Kd.R_far (p := ⟨gb188, 0, none⟩) (Kd.R_types HO173.out BK188.out (by decide)) (fun _ hk => hk.2) (.slice Ao30 t183.length co30)) (fun _ hk => hk.2) (.int .i64 t186)) (fun _ h_ => h_.1)))); (case side4 => exact (Kd.R_reads' HO173.out).2.1); rintro e w52 ⟨rfl, hb⟩; refine ⟨_, rfl, ?_⟩; have n0_ := Aside0.mk (Kd.R_below (by (with_reducible repeat (first | apply Kd.R_alloc | apply Kd.R_drewN | apply Kd.R_drew)); exact (Kd.R_mono (Kd.R_far (p := ⟨gb188, 1, none⟩) (Kd.R_far (p := ⟨gb188, 0, none⟩) (Kd.R_types HO168.out BK188.out (by decide)) (fun _ hk => hk.2) (.slice Ao30 t183.length co30)) (fun _ hk => hk.2) (.int .i64 t186)) (fun _ h_ => h_.1))) hb); have n1_ := Aside0.mk (Kd.R_below (by (with_reducible repeat (first | apply Kd.R_alloc | apply Kd.R_drewN | apply Kd.R_drew)); exact (Kd.R_mono (Kd.R_far (p := ⟨gb188, 1, none⟩) (Kd.R_far (p := ⟨gb188, 0, none⟩) (Kd.R_types HO173.out BK188.out (by decide)) (fun _ hk => hk.2) (.slice Ao30 t183.length co30)) (fun _ hk => hk.2) (.int .i64 t186)) (fun _ h_ => h_.1))) hb); have n2_ := Aside0.mk (Kd.R_below (by (with_reducible repeat (first | apply Kd.R_alloc | apply Kd.R_drewN | apply Kd.R_drew)); exact (Kd.R_mono (Kd.R_far (p := ⟨gb188, 1, none⟩) (Kd.R_far (p := ⟨gb188, 0, none⟩) (Kd.R_types HO179.out BK188.out (by decide)) (fun _ hk => hk.2) (.slice Ao30 t183.length co30)) (fun _ hk => hk.2) (.int .i64 t186)) (fun _ h_ => h_.1))) hb); have n3_ := Aside0.mk (Kd.R_below (by (with_reducible repeat (first | apply Kd.R_alloc | apply Kd.R_drewN | apply Kd.R_drew)); exact (Kd.R_mono (Kd.R_far (p := ⟨gb188, 1, none⟩) (Kd.R_far (p := ⟨gb188, 0, none⟩) (Kd.R_types HO185.out BK188.out (by decide)) (fun _ hk => hk.2) (.slice Ao30 t183.length co30)) (fun _ hk => hk.2) (.int .i64 t186)) (fun _ h_ => h_.1))) hb); have n4_ := Aside0.mk (blk_below (g := gb164) (o := .cells #[.slice A0_0 l0_0.length c0_0, .int .i64 a0_1, .int .i64 a0_2] 24 (0, 0)) (by (with_reducible repeat (first | refine blk_drewN ?_ _ | refine blk_drew ?_ | refine blk_alloc ?_ _)); refine blk_far ?_ NB164_188.out _; (with_reducible repeat (first | refine blk_drewN ?_ _ | refine blk_drew ?_ | refine blk_alloc ?_ _)); refine blk_far ?_ NB164_188.out _; (with_reducible repeat (first | refine blk_drewN ?_ _ | refine blk_drew ?_ | refine blk_alloc ?_ _)); exact BK164.out) hb); have n5_ := Aside0.mk (blk_below (g := gb176) (o := .cells #[.slice Ao18 t171.length co18, .int .i64 t174] 28 (0, 0)) (by (with_reducible repeat (first | refine blk_drewN ?_ _ | refine blk_drew ?_ | refine blk_alloc ?_ _)); refine blk_far ?_ NB176_188.out _; (with_reducible repeat (first | refine blk_drewN ?_ _ | refine blk_drew ?_ | refine blk_alloc ?_ _)); refine blk_far ?_ NB176_188.out _; (with_reducible repeat (first | refine blk_drewN ?_ _ | refine blk_drew ?_ | refine blk_alloc ?_ _)); exact BK176.out) hb); have n6_ := Aside0.mk (blk_below (g := gb182) (o := .cells #[.slice Ao24 t177.length co24, .int .i64 t180, .int .i64 t181] 31 (0, 0)) (by (with_reducible repeat (first | refine blk_drewN ?_ _ | refine blk_drew ?_ | refine blk_alloc ?_ _)); refine blk_far ?_ NB182_188.out _; (with_reducible repeat (first | refine blk_drewN ?_ _ | refine blk_drew ?_ | refine blk_alloc ?_ _)); refine blk_far ?_ NB182_188.out _; (with_reducible repeat (first | refine blk_drewN ?_ _ | refine blk_drew ?_ | refine blk_alloc ?_ _)); exact BK182.out) hb); have n7_ := Aside0.mk (blk_below (g := gb188) (o := .cells #[.slice Ao30 t183.length co30, .int .i64 t186] 28 (0, 0)) (by (with_reducible repeat (first | refine blk_drewN ?_ _ | refine blk_drew ?_ | refine blk_alloc ?_ _)); refine blk_put (cs := #[.slice Ao30 t183.length co30, .int .i64 0]) ?_ 1 _ rfl; (with_reducible repeat (first | refine blk_drewN ?_ _ | refine blk_drew ?_ | refine blk_alloc ?_ _)); refine blk_put (cs := #[.slice none 0 0, .int .i64 0]) ?_ 0 _ rfl; (with_reducible repeat (first | refine blk_drewN ?_ _ | refine blk_drew ?_ | refine blk_alloc ?_ _)); exact BK188.out) hb); have n8_ := Aside0.mk (below_step (by repeat (first | (with_reducible first | exact HB.out | apply below_alloc | apply pw_below_drewN | apply below_drew1 | refine below_set ?_ GE164.out | refine below_set ?_ GE176.out | refine below_set ?_ GE182.out | refine below_set ?_ GE188.out) | exact HB.out)) hb); clear HO168; clear HO173; clear HO179; clear HO185; clear BK164; clear BK176; clear BK182; clear BK188; clear HB; have HO168 := n0_; have HO173 := n1_; have HO179 := n2_; have HO185 := n3_; have BK164 := n4_; have BK176 := n5_; have BK182 := n6_; have BK188 := n7_; have HB := n8_; clear n0_ n1_ n2_ n3_ n4_ n5_ n6_ n7_ n8_; (try clear hb); (try clear hb2); (try clear hk); (try clear hi)))
          go_meet
          case rel => exact ⟨_, (true), (by first | rfl | (simp; done) | (simp [*]; done)), H', ⟨by have := HJ2.out; first | omega | exact Nat.le_refl _⟩, ⟨by (with_reducible repeat (first | apply Kd.R_alloc | apply Kd.R_drewN | apply Kd.R_drew)); exact Kd.R_mono HO173.out (fun _ hk => ⟨hk.2, ⟨hk.1.1.1.2, ⟨hk.1.1.2, hk.1.2⟩⟩⟩)⟩, ⟨by (with_reducible repeat (first | apply Kd.R_alloc | apply Kd.R_drewN | apply Kd.R_drew)); exact Kd.R_mono HO179.out (fun _ hk => ⟨hk.1.1.2, hk.2⟩)⟩, ⟨by (with_reducible repeat (first | apply Kd.R_alloc | apply Kd.R_drewN | apply Kd.R_drew)); exact Kd.R_mono HO185.out (fun _ hk => ⟨hk.2, hk.1.2⟩)⟩, ⟨by (with_reducible repeat (first | refine blk_drewN ?_ _ | refine blk_drew ?_ | refine blk_alloc ?_ _)); exact BK164.out⟩, ⟨by (with_reducible repeat (first | refine blk_drewN ?_ _ | refine blk_drew ?_ | refine blk_alloc ?_ _)); exact BK176.out⟩, ⟨by (with_reducible repeat (first | refine blk_drewN ?_ _ | refine blk_drew ?_ | refine blk_alloc ?_ _)); exact BK182.out⟩, ⟨by (with_reducible repeat (first | refine blk_drewN ?_ _ | refine blk_drew ?_ | refine blk_alloc ?_ _)); exact BK188.out⟩, ⟨by repeat (first | (with_reducible first | exact HB.out | apply below_alloc | apply pw_below_drewN | apply below_drew1 | refine below_set ?_ GE164.out | refine below_set ?_ GE176.out | refine below_set ?_ GE182.out | refine below_set ?_ GE188.out) | exact HB.out)⟩⟩
      case rest =>
        clear HC12
        try clear c1
        try clear c2
        try clear p2
        try clear c3
        try clear c4
        try clear c5
        try clear c7
        try clear c7b0
        try clear c15
        try clear c16
        try clear c17
        try clear c18
        try clear c19
        try clear c25
        try clear c26
        try clear c31
        try clear c32
        try clear c33
        try clear c36
        try clear c37
        try clear c38
        try clear c39
        try clear c41
        try clear c42
        try clear c45
        try clear c46
        try clear c47
        try clear c49
        try clear c50
        try clear hcz13_0
        try clear hcz13_1
        try clear hcz13_2
        try clear hcz20_0
        try clear hcz20_1
        try clear hcz21_0
        try clear hcz21_1
        try clear hcz21_2
        try clear hcz27_0
        try clear hcz27_1
        try clear hcz27_2
        try clear hcz34_0
        try clear hcz34_1
        try clear hcz40_0
        try clear hcz40_1
        try clear hcz43_0
        try clear hcz43_1
        try clear hcz48_0
        try clear hcz48_1
        try clear hcz51_0
        try clear hcz51_1
        try clear hcz5_0
        try clear hcz5_1
        try clear hcz5_2
        try clear hfz13_0
        try clear hfz13_1
        try clear hfz13_2
        try clear hfz20_0
        try clear hfz20_1
        try clear hfz21_0
        try clear hfz21_1
        try clear hfz21_2
        try clear hfz27_0
        try clear hfz27_1
        try clear hfz27_2
        try clear hfz34_0
        try clear hfz34_1
        try clear hfz40_0
        try clear hfz40_1
        try clear hfz43_0
        try clear hfz43_1
        try clear hfz48_0
        try clear hfz48_1
        try clear hfz51_0
        try clear hfz51_1
        try clear hfz5_0
        try clear hfz5_1
        try clear hfz5_2
        try clear p2
        obtain ⟨kq, x40_11, rfl, HA, HJ11, HO_177000, HO_183000, HO_189000, BK164, BK176, BK182, BK188, HB⟩ := hcut
        cases kq with
        | zero => exact absurd HA.out (by simp [laws_FnExactFirstCamp.j1])
        | succ kj11 =>
          have H := HA.out
          clear HA
          simp only [laws_FnExactFirstCamp.j1] at H
          have HC53 := Aside0.mk H
          clear H
          go_upto_if 40 with (fail)
          go_cut [] (fun wc => ∃ (kq : Nat), Aside0 (laws_FnExactFirstCamp.j2 kq t175 t187 l0_0 a0_1 a0_2 t171 t174 t177 t180 t181 t183 t186 = some r) ∧ Aside0 (kq ≤ kj11) ∧ Aside0 (Kd.R Kd.bool 4 wc w.heap.size (fun k_ => some k_ ≠ ((.slice Ao30 t183.length co30) : Value).ownBlock ∧ ¬ D216_ k_ ∧ D217_ k_ ∧ D218_ k_) (.slice Ao18 t171.length co18) t171) ∧ Aside0 (Kd.R (Kd.int .i64) 3 wc w.heap.size (fun k_ => ¬ D217_ k_ ∧ D218_ k_) (.slice Ao24 t177.length co24) t177) ∧ Aside0 (Kd.R Kd.bool 4 wc w.heap.size (fun k_ => some k_ ≠ ((.slice Ao18 t171.length co18) : Value).ownBlock ∧ ¬ D218_ k_) (.slice Ao30 t183.length co30) t183) ∧ Aside0 (wc.heap[gb164]? = some (.cells #[(.slice A0_0 l0_0.length c0_0), .int .i64 a0_1, .int .i64 a0_2] 24 (0, 0))) ∧ Aside0 (wc.heap[gb176]? = some (.cells #[(.slice Ao18 t171.length co18), .int .i64 t174] 28 (0, 0))) ∧ Aside0 (wc.heap[gb182]? = some (.cells #[(.slice Ao24 t177.length co24), .int .i64 t180, .int .i64 t181] 31 (0, 0))) ∧ Aside0 (wc.heap[gb188]? = some (.cells #[(.slice Ao30 t183.length co30), .int .i64 t186] 28 (0, 0))) ∧ Aside0 (Below w.heap.size w wc))
          case first =>
            have H := HC53.out
            clear HC53
            by_cases c54 : x40_11 = true
            · subst c54
              have H1 : (some false) = some r := by rw [if_pos rfl] at H; exact H
              clear H
              have H := H1
              clear H1
              obtain rfl := Option.some.inj H
              go_wp2
              go_ret
              exact ⟨by first | rfl | (simp [errW_none, errW_some] <;> rfl) | (simp [*, errW_none, errW_some] <;> rfl), by repeat (first | (with_reducible first | exact HB.out | apply below_alloc | apply pw_below_drewN | apply below_drew1 | refine below_set ?_ GE164.out | refine below_set ?_ GE176.out | refine below_set ?_ GE182.out | refine below_set ?_ GE188.out) | exact HB.out)⟩
            · replace c54 := Bool.eq_false_iff.mpr c54
              subst c54
              have H1 : (laws_FnExactFirstCamp.j2 kj11 t175 t187 l0_0 a0_1 a0_2 t171 t174 t177 t180 t181 t183 t186) = some r := by rw [if_neg (show ¬ (false = true) by decide)] at H; exact H
              clear H
              have H := H1
              clear H1
              have H' := Aside0.mk H
              clear H
              go_wp2
              go_meet
              case rel => exact ⟨_, H', ⟨by have := HJ2.out; have := HJ11.out; first | omega | exact Nat.le_refl _⟩, ⟨by (with_reducible repeat (first | apply Kd.R_alloc | apply Kd.R_drewN | apply Kd.R_drew)); exact HO_177000.out⟩, ⟨by (with_reducible repeat (first | apply Kd.R_alloc | apply Kd.R_drewN | apply Kd.R_drew)); exact HO_183000.out⟩, ⟨by (with_reducible repeat (first | apply Kd.R_alloc | apply Kd.R_drewN | apply Kd.R_drew)); exact HO_189000.out⟩, ⟨by (with_reducible repeat (first | refine blk_drewN ?_ _ | refine blk_drew ?_ | refine blk_alloc ?_ _)); exact BK164.out⟩, ⟨by (with_reducible repeat (first | refine blk_drewN ?_ _ | refine blk_drew ?_ | refine blk_alloc ?_ _)); exact BK176.out⟩, ⟨by (with_reducible repeat (first | refine blk_drewN ?_ _ | refine blk_drew ?_ | refine blk_alloc ?_ _)); exact BK182.out⟩, ⟨by (with_reducible repeat (first | refine blk_drewN ?_ _ | refine blk_drew ?_ | refine blk_alloc ?_ _)); exact BK188.out⟩, ⟨by repeat (first | (with_reducible first | exact HB.out | apply below_alloc | apply pw_below_drewN | apply below_drew1 | refine below_set ?_ GE164.out | refine below_set ?_ GE176.out | refine below_set ?_ GE182.out | refine below_set ?_ GE188.out) | exact HB.out)⟩⟩
          case rest =>
            clear HC53
            try clear c1
            try clear c2
            try clear p2
            try clear c3
            try clear c4
            try clear c5
            try clear c7
            try clear c7b0
            try clear c15
            try clear c16
            try clear c17
            try clear c18
            try clear c19
            try clear c25
            try clear c26
            try clear c31
            try clear c32
            try clear c33
            try clear c36
            try clear c37
            try clear c38
            try clear c39
            try clear c41
            try clear c42
            try clear c45
            try clear c46
            try clear c47
            try clear c49
            try clear c50
            try clear c54
            try clear hcz13_0
            try clear hcz13_1
            try clear hcz13_2
            try clear hcz20_0
            try clear hcz20_1
            try clear hcz21_0
            try clear hcz21_1
            try clear hcz21_2
            try clear hcz27_0
            try clear hcz27_1
            try clear hcz27_2
            try clear hcz34_0
            try clear hcz34_1
            try clear hcz40_0
            try clear hcz40_1
            try clear hcz43_0
            try clear hcz43_1
            try clear hcz48_0
            try clear hcz48_1
            try clear hcz51_0
            try clear hcz51_1
            try clear hcz5_0
            try clear hcz5_1
            try clear hcz5_2
            try clear hfz13_0
            try clear hfz13_1
            try clear hfz13_2
            try clear hfz20_0
            try clear hfz20_1
            try clear hfz21_0
            try clear hfz21_1
            try clear hfz21_2
            try clear hfz27_0
            try clear hfz27_1
            try clear hfz27_2
            try clear hfz34_0
            try clear hfz34_1
            try clear hfz40_0
            try clear hfz40_1
            try clear hfz43_0
            try clear hfz43_1
            try clear hfz48_0
            try clear hfz48_1
            try clear hfz51_0
            try clear hfz51_1
            try clear hfz5_0
            try clear hfz5_1
            try clear hfz5_2
            try clear p2
            obtain ⟨kq, HA, HJ52, HO_177000, HO_183000, HO_189000, BK164, BK176, BK182, BK188, HB⟩ := hcut
            cases kq with
            | zero => exact absurd HA.out (by simp [laws_FnExactFirstCamp.j2])
            | succ kj52 =>
              have H := HA.out
              clear HA
              simp only [laws_FnExactFirstCamp.j2] at H
              replace H := Option.bind_eq_some_iff.mp H
              obtain ⟨⟨t190, t193, t194⟩, A550, H⟩ := H
              replace H : ((laws_eqNight.f kj52 t177 t180 t181 t190 t193 t194).bind fun t195 => (if t195 = true then (laws_FnExactFirstCamp.j3 kj52 t175 t187 l0_0 a0_1 a0_2 t171 t174 t177 t180 t181 t183 t186) else (some false))) = some r := H
              have A55 := Aside0.mk A550
              clear A550
              replace H := Option.bind_eq_some_iff.mp H
              obtain ⟨t195, A560, H⟩ := H
              replace H : (if t195 = true then (laws_FnExactFirstCamp.j3 kj52 t175 t187 l0_0 a0_1 a0_2 t171 t174 t177 t180 t181 t183 t186) else (some false)) = some r := H
              have A56 := Aside0.mk A560
              clear A560
              have HC57 := Aside0.mk H
              clear H
              try go_wp2
              have n0_ := Aside0.mk (Kd.R_drew HO_177000.out)
              have n1_ := Aside0.mk (Kd.R_drew HO_183000.out)
              have n2_ := Aside0.mk (Kd.R_drew HO_189000.out)
              have n3_ := Aside0.mk (blk_drew BK164.out)
              have n4_ := Aside0.mk (blk_drew BK176.out)
              have n5_ := Aside0.mk (blk_drew BK182.out)
              have n6_ := Aside0.mk (blk_drew BK188.out)
              have n7_ := Aside0.mk (below_drew1 HB.out)
              clear HO_177000
              clear HO_183000
              clear HO_189000
              clear BK164
              clear BK176
              clear BK182
              clear BK188
              clear HB
              have HO_177000 := n0_
              have HO_183000 := n1_
              have HO_189000 := n2_
              have BK164 := n3_
              have BK176 := n4_
              have BK182 := n5_
              have BK188 := n6_
              have HB := n7_
              clear n0_ n1_ n2_ n3_ n4_ n5_ n6_ n7_
              refine start_ (n := 5) (S := fun w' => w'.cell? ⟨gb182, 0, none⟩ = some (.slice Ao24 t177.length co24) ∧ w'.cell? ⟨gb182, 1, none⟩ = some (.int .i64 t180) ∧ w'.cell? ⟨gb182, 2, none⟩ = some (.int .i64 t181) ∧ w'.cell? ⟨gb164, 0, none⟩ = some (.slice A0_0 l0_0.length c0_0) ∧ w'.cell? ⟨gb164, 1, none⟩ = some (.int .i64 a0_1) ∧ w'.cell? ⟨gb164, 2, none⟩ = some (.int .i64 a0_2)) (ds := []) #[false, false, false, false, false] (by kernel_rfl) rfl rfl ⟨(blk_cell BK182.out 0).trans rfl, (blk_cell BK182.out 1).trans rfl, (blk_cell BK182.out 2).trans rfl, (blk_cell BK164.out 0).trans rfl, (blk_cell BK164.out 1).trans rfl, (blk_cell BK164.out 2).trans rfl⟩ (fun hHeld => ?_)
              generalize wc.drew = w58 at HO_177000 HO_183000 HO_189000 BK164 BK176 BK182 BK188 HB hHeld ⊢
              refine take_ (i := 0) (N := some 41) (v := ?_) (a' := ?_) #[true, false, false, false, false] rfl rfl (by kernel_rfl) (fun _ _ _ h => h) (Or.inl ⟨by rfl, ?_⟩) hHeld ?_ ?_
              rotate_left
              · rintro w' ⟨s0, s1, s2, s3, s4, s5⟩
                go_simp
                with_reducible rfl
              rotate_left
              · simp only [Act.put, List.setIfInBounds_toArray, List.set_cons_zero, List.set_cons_succ, i64_w, i32_w]
                rfl
              refine take_ (i := 1) (N := some 42) (v := ?_) (a' := ?_) #[true, true, false, false, false] rfl rfl (by kernel_rfl) (fun _ _ _ h => h) (Or.inl ⟨by rfl, ?_⟩) hHeld ?_ ?_
              rotate_left
              · rintro w' ⟨s0, s1, s2, s3, s4, s5⟩
                go_simp
                with_reducible rfl
              rotate_left
              · simp only [Act.put, List.setIfInBounds_toArray, List.set_cons_zero, List.set_cons_succ, i64_w, i32_w]
                rfl
              refine one_ (i := 2) (N := some 43) #[true, true, true, false, false] rfl rfl (by kernel_rfl) (by decide) (fun K hK => ?_)
              refine goes_ Try.func17 (by kernel_rfl) rfl #[.agg #[.slice A0_0 l0_0.length c0_0, .int .i64 a0_1, .int .i64 a0_2]] (by rfl) rfl rfl (by (try simp only [List.map_toArray, List.map_cons, List.map_nil]); first | done | rfl | (simp only [List.length_drop, List.length_take]; rfl)) ?_
              with_reducible refine (laws_toNight.calls kj52 _ _ l0_0 a0_1 a0_2 t190 t193 t194 _ ?side1 ?side2 A55.out).mono ?_
              (case side1 => repeat (first | exact (Kd.C_below HR0_0.out HB.out) | (with_reducible refine Kd.C_alloc ?_ _) | (with_reducible refine Kd.C_drewN ?_ _) | (with_reducible refine Kd.C_drew ?_)))
              (case side2 => exact HC0_0.out)
              rintro e w59 ⟨v191, rfl, ho0, hb⟩
              refine ⟨_, rfl, ?_⟩
              have n0_ := Aside0.mk (Kd.R_below (by (with_reducible repeat (first | apply Kd.R_alloc | apply Kd.R_drewN | apply Kd.R_drew)); exact HO_177000.out) hb)
              have n1_ := Aside0.mk (Kd.R_elder' (by (with_reducible repeat (first | apply Kd.R_alloc | apply Kd.R_drewN | apply Kd.R_drew)); exact HO_183000.out) (Kd.R_base ho0) hb)
              have n2_ := Aside0.mk (Kd.R_below (by (with_reducible repeat (first | apply Kd.R_alloc | apply Kd.R_drewN | apply Kd.R_drew)); exact HO_189000.out) hb)
              have n3_ := Aside0.mk (Kd.R_lower (Kd.R_new' ho0 (Kd.R_lt (by (with_reducible repeat (first | apply Kd.R_alloc | apply Kd.R_drewN | apply Kd.R_drew)); exact HO_183000.out))) (below_size (by repeat (first | (with_reducible first | exact HB.out | apply below_alloc | apply pw_below_drewN | apply below_drew1 | refine below_set ?_ GE164.out | refine below_set ?_ GE176.out | refine below_set ?_ GE182.out | refine below_set ?_ GE188.out) | exact HB.out))))
              have n4_ := Aside0.mk (blk_below (g := gb164) (o := .cells #[.slice A0_0 l0_0.length c0_0, .int .i64 a0_1, .int .i64 a0_2] 24 (0, 0)) (by (with_reducible repeat (first | refine blk_drewN ?_ _ | refine blk_drew ?_ | refine blk_alloc ?_ _)); exact BK164.out) hb)
              have n5_ := Aside0.mk (blk_below (g := gb176) (o := .cells #[.slice Ao18 t171.length co18, .int .i64 t174] 28 (0, 0)) (by (with_reducible repeat (first | refine blk_drewN ?_ _ | refine blk_drew ?_ | refine blk_alloc ?_ _)); exact BK176.out) hb)
              have n6_ := Aside0.mk (blk_below (g := gb182) (o := .cells #[.slice Ao24 t177.length co24, .int .i64 t180, .int .i64 t181] 31 (0, 0)) (by (with_reducible repeat (first | refine blk_drewN ?_ _ | refine blk_drew ?_ | refine blk_alloc ?_ _)); exact BK182.out) hb)
              have n7_ := Aside0.mk (blk_below (g := gb188) (o := .cells #[.slice Ao30 t183.length co30, .int .i64 t186] 28 (0, 0)) (by (with_reducible repeat (first | refine blk_drewN ?_ _ | refine blk_drew ?_ | refine blk_alloc ?_ _)); exact BK188.out) hb)
              have n8_ := Aside0.mk (below_step (by repeat (first | (with_reducible first | exact HB.out | apply below_alloc | apply pw_below_drewN | apply below_drew1 | refine below_set ?_ GE164.out | refine below_set ?_ GE176.out | refine below_set ?_ GE182.out | refine below_set ?_ GE188.out) | exact HB.out)) hb)
              clear HO_177000
              clear HO_183000
              clear HO_189000
              clear BK164
              clear BK176
              clear BK182
              clear BK188
              clear HB
              have HO_177000 := n0_
              have HO_183000 := n1_
              have HO_189000 := n2_
              have HO192 := n3_
              have BK164 := n4_
              have BK176 := n5_
              have BK182 := n6_
              have BK188 := n7_
              have HB := n8_
              clear n0_ n1_ n2_ n3_ n4_ n5_ n6_ n7_ n8_
              (try clear hb)
              (try clear hb2)
              (try clear hk)
              (try clear hi)
              (try clear ho0)
              obtain ⟨Ao60, co60, eo60⟩ := Kd.R_slice HO192.out
              (first | subst eo60 | (injection eo60 with f1_ f2_ f3_; have f4_ := f1_.symm; have f5_ := f3_.symm; clear f1_ f2_ f3_; subst f4_; subst f5_))
              refine hK.out _ _ ⟨(blk_cell BK182.out 0).trans rfl, (blk_cell BK182.out 1).trans rfl, (blk_cell BK182.out 2).trans rfl, (blk_cell BK164.out 0).trans rfl, (blk_cell BK164.out 1).trans rfl, (blk_cell BK164.out 2).trans rfl⟩ (fun hHeld => ?_)
              clear hK K
              refine norm_ (a' := ?_) ?_ ?_
              rotate_left
              · show Act.put _ (some 43) _ = _
                simp only [Act.put, List.setIfInBounds_toArray, List.set_cons_zero, List.set_cons_succ, i64_w, i32_w]
                rfl
              refine one_ (i := 3) (N := some 44) #[true, true, true, true, false] rfl rfl (by kernel_rfl) (by decide) (fun K hK => ?_)
              refine goes_ Try.func20 (by kernel_rfl) rfl #[.agg #[.slice Ao24 t177.length co24, .int .i64 t180, .int .i64 t181], .agg #[.slice Ao60 t190.length co60, .int .i64 t193, .int .i64 t194]] (by rfl) rfl rfl (by (try simp only [List.map_toArray, List.map_cons, List.map_nil]); first | done | rfl | (simp only [List.length_drop, List.length_take]; rfl)) ?_
              with_reducible refine (laws_eqNight.calls kj52 _ _ t177 t180 t181 _ _ t190 t193 t194 t195 _ ?side1 ?side2 ?side3 ?side4 A56.out).mono ?_
              (case side1 => repeat (first | exact (Kd.R_reads' HO_183000.out).2.2 | (with_reducible refine Kd.C_alloc ?_ _) | (with_reducible refine Kd.C_drewN ?_ _) | (with_reducible refine Kd.C_drew ?_)))
              (case side2 => exact (Kd.R_reads' HO_183000.out).2.1)
              (case side3 => repeat (first | exact (Kd.R_reads' HO192.out).2.2 | (with_reducible refine Kd.C_alloc ?_ _) | (with_reducible refine Kd.C_drewN ?_ _) | (with_reducible refine Kd.C_drew ?_)))
              (case side4 => exact (Kd.R_reads' HO192.out).2.1)
              rintro e w61 ⟨rfl, hb⟩
              refine ⟨_, rfl, ?_⟩
              have n0_ := Aside0.mk (Kd.R_below (by (with_reducible repeat (first | apply Kd.R_alloc | apply Kd.R_drewN | apply Kd.R_drew)); exact HO_177000.out) hb)
              have n1_ := Aside0.mk (Kd.R_below (by (with_reducible repeat (first | apply Kd.R_alloc | apply Kd.R_drewN | apply Kd.R_drew)); exact HO_183000.out) hb)
              have n2_ := Aside0.mk (Kd.R_below (by (with_reducible repeat (first | apply Kd.R_alloc | apply Kd.R_drewN | apply Kd.R_drew)); exact HO_189000.out) hb)
              have n3_ := Aside0.mk (Kd.R_below (by (with_reducible repeat (first | apply Kd.R_alloc | apply Kd.R_drewN | apply Kd.R_drew)); exact HO192.out) hb)
              have n4_ := Aside0.mk (blk_below (g := gb164) (o := .cells #[.slice A0_0 l0_0.length c0_0, .int .i64 a0_1, .int .i64 a0_2] 24 (0, 0)) (by (with_reducible repeat (first | refine blk_drewN ?_ _ | refine blk_drew ?_ | refine blk_alloc ?_ _)); exact BK164.out) hb)
              have n5_ := Aside0.mk (blk_below (g := gb176) (o := .cells #[.slice Ao18 t171.length co18, .int .i64 t174] 28 (0, 0)) (by (with_reducible repeat (first | refine blk_drewN ?_ _ | refine blk_drew ?_ | refine blk_alloc ?_ _)); exact BK176.out) hb)
              have n6_ := Aside0.mk (blk_below (g := gb182) (o := .cells #[.slice Ao24 t177.length co24, .int .i64 t180, .int .i64 t181] 31 (0, 0)) (by (with_reducible repeat (first | refine blk_drewN ?_ _ | refine blk_drew ?_ | refine blk_alloc ?_ _)); exact BK182.out) hb)
              have n7_ := Aside0.mk (blk_below (g := gb188) (o := .cells #[.slice Ao30 t183.length co30, .int .i64 t186] 28 (0, 0)) (by (with_reducible repeat (first | refine blk_drewN ?_ _ | refine blk_drew ?_ | refine blk_alloc ?_ _)); exact BK188.out) hb)
              have n8_ := Aside0.mk (below_step (by repeat (first | (with_reducible first | exact HB.out | apply below_alloc | apply pw_below_drewN | apply below_drew1 | refine below_set ?_ GE164.out | refine below_set ?_ GE176.out | refine below_set ?_ GE182.out | refine below_set ?_ GE188.out) | exact HB.out)) hb)
              clear HO_177000
              clear HO_183000
              clear HO_189000
              clear HO192
              clear BK164
              clear BK176
              clear BK182
              clear BK188
              clear HB
              have HO_177000 := n0_
              have HO_183000 := n1_
              have HO_189000 := n2_
              have HO192 := n3_
              have BK164 := n4_
              have BK176 := n5_
              have BK182 := n6_
              have BK188 := n7_
              have HB := n8_
              clear n0_ n1_ n2_ n3_ n4_ n5_ n6_ n7_ n8_
              (try clear hb)
              (try clear hb2)
              (try clear hk)
              (try clear hi)
              refine hK.out _ _ ⟨(blk_cell BK182.out 0).trans rfl, (blk_cell BK182.out 1).trans rfl, (blk_cell BK182.out 2).trans rfl, (blk_cell BK164.out 0).trans rfl, (blk_cell BK164.out 1).trans rfl, (blk_cell BK164.out 2).trans rfl⟩ (fun hHeld => ?_)
              clear hK K
              refine norm_ (a' := ?_) ?_ ?_
              rotate_left
              · show Act.put _ (some 44) _ = _
                simp only [Act.put, List.setIfInBounds_toArray, List.set_cons_zero, List.set_cons_succ, i64_w, i32_w]
                rfl
              refine pure_ (i := 4) (N := some 45) (v := ?_) (a' := ?_) #[true, true, true, true, true] rfl rfl (by kernel_rfl) (fun _ _ _ h => h) (Or.inl ⟨by rfl, ?_⟩) ?_ ?_
              rotate_left
              · intro w'
                go_simp
                with_reducible rfl
              rotate_left
              · simp only [Act.put, List.setIfInBounds_toArray, List.set_cons_zero, List.set_cons_succ, i64_w, i32_w]
                rfl
              refine done_ (by kernel_rfl) ?_
              go_upto_if 45 with (fail)
              go_cut [] (fun wc => ∃ (kq : Nat), Aside0 (laws_FnExactFirstCamp.j3 kq t175 t187 l0_0 a0_1 a0_2 t171 t174 t177 t180 t181 t183 t186 = some r) ∧ Aside0 (kq ≤ kj52) ∧ Aside0 (Kd.R Kd.bool 4 wc w.heap.size (fun k_ => some k_ ≠ ((.slice Ao30 t183.length co30) : Value).ownBlock ∧ ¬ D216_ k_ ∧ D217_ k_ ∧ D218_ k_) (.slice Ao18 t171.length co18) t171) ∧ Aside0 (Kd.R (Kd.int .i64) 3 wc w.heap.size (fun k_ => ¬ D217_ k_ ∧ D218_ k_) (.slice Ao24 t177.length co24) t177) ∧ Aside0 (Kd.R Kd.bool 4 wc w.heap.size (fun k_ => some k_ ≠ ((.slice Ao18 t171.length co18) : Value).ownBlock ∧ ¬ D218_ k_) (.slice Ao30 t183.length co30) t183) ∧ Aside0 (wc.heap[gb164]? = some (.cells #[(.slice A0_0 l0_0.length c0_0), .int .i64 a0_1, .int .i64 a0_2] 24 (0, 0))) ∧ Aside0 (wc.heap[gb176]? = some (.cells #[(.slice Ao18 t171.length co18), .int .i64 t174] 28 (0, 0))) ∧ Aside0 (wc.heap[gb182]? = some (.cells #[(.slice Ao24 t177.length co24), .int .i64 t180, .int .i64 t181] 31 (0, 0))) ∧ Aside0 (wc.heap[gb188]? = some (.cells #[(.slice Ao30 t183.length co30), .int .i64 t186] 28 (0, 0))) ∧ Aside0 (Below w.heap.size w wc))
              case first =>
                have H := HC57.out
                clear HC57
                by_cases c62 : t195 = true
                · subst c62
                  have H1 : (laws_FnExactFirstCamp.j3 kj52 t175 t187 l0_0 a0_1 a0_2 t171 t174 t177 t180 t181 t183 t186) = some r := by rw [if_pos rfl] at H; exact H
                  clear H
                  have H := H1
                  clear H1
                  have H' := Aside0.mk H
                  clear H
                  go_wp2
                  go_meet
                  case rel => exact ⟨_, H', ⟨by have := HJ2.out; have := HJ11.out; have := HJ52.out; first | omega | exact Nat.le_refl _⟩, ⟨by (with_reducible repeat (first | apply Kd.R_alloc | apply Kd.R_drewN | apply Kd.R_drew)); exact HO_177000.out⟩, ⟨by (with_reducible repeat (first | apply Kd.R_alloc | apply Kd.R_drewN | apply Kd.R_drew)); exact Kd.R_mono HO_183000.out (fun _ hk => ⟨hk.1.1, hk.1.2⟩)⟩, ⟨by (with_reducible repeat (first | apply Kd.R_alloc | apply Kd.R_drewN | apply Kd.R_drew)); exact HO_189000.out⟩, ⟨by (with_reducible repeat (first | refine blk_drewN ?_ _ | refine blk_drew ?_ | refine blk_alloc ?_ _)); exact BK164.out⟩, ⟨by (with_reducible repeat (first | refine blk_drewN ?_ _ | refine blk_drew ?_ | refine blk_alloc ?_ _)); exact BK176.out⟩, ⟨by (with_reducible repeat (first | refine blk_drewN ?_ _ | refine blk_drew ?_ | refine blk_alloc ?_ _)); exact BK182.out⟩, ⟨by (with_reducible repeat (first | refine blk_drewN ?_ _ | refine blk_drew ?_ | refine blk_alloc ?_ _)); exact BK188.out⟩, ⟨by repeat (first | (with_reducible first | exact HB.out | apply below_alloc | apply pw_below_drewN | apply below_drew1 | refine below_set ?_ GE164.out | refine below_set ?_ GE176.out | refine below_set ?_ GE182.out | refine below_set ?_ GE188.out) | exact HB.out)⟩⟩
                · replace c62 := Bool.eq_false_iff.mpr c62
                  subst c62
                  have H1 : (some false) = some r := by rw [if_neg (show ¬ (false = true) by decide)] at H; exact H
                  clear H
                  have H := H1
                  clear H1
                  obtain rfl := Option.some.inj H
                  go_wp2
                  go_ret
                  exact ⟨by first | rfl | (simp [errW_none, errW_some] <;> rfl) | (simp [*, errW_none, errW_some] <;> rfl), by repeat (first | (with_reducible first | exact HB.out | apply below_alloc | apply pw_below_drewN | apply below_drew1 | refine below_set ?_ GE164.out | refine below_set ?_ GE176.out | refine below_set ?_ GE182.out | refine below_set ?_ GE188.out) | exact HB.out)⟩
              case rest =>
                clear HC57
                try clear c1
                try clear c2
                try clear p2
                try clear c3
                try clear c4
                try clear c5
                try clear c6
                try clear c7
                try clear c7b0
                try clear c15
                try clear c16
                try clear c17
                try clear c18
                try clear c19
                try clear c20
                try clear c25
                try clear c26
                try clear c31
                try clear c32
                try clear c33
                try clear c36
                try clear c37
                try clear c38
                try clear c39
                try clear c41
                try clear c42
                try clear c45
                try clear c46
                try clear c47
                try clear c49
                try clear c50
                try clear c54
                try clear c62
                try clear hcz13_0
                try clear hcz13_1
                try clear hcz13_2
                try clear hcz20_0
                try clear hcz20_1
                try clear hcz21_0
                try clear hcz21_1
                try clear hcz21_2
                try clear hcz27_0
                try clear hcz27_1
                try clear hcz27_2
                try clear hcz34_0
                try clear hcz34_1
                try clear hcz40_0
                try clear hcz40_1
                try clear hcz43_0
                try clear hcz43_1
                try clear hcz48_0
                try clear hcz48_1
                try clear hcz51_0
                try clear hcz51_1
                try clear hcz5_0
                try clear hcz5_1
                try clear hcz5_2
                try clear hfz13_0
                try clear hfz13_1
                try clear hfz13_2
                try clear hfz20_0
                try clear hfz20_1
                try clear hfz21_0
                try clear hfz21_1
                try clear hfz21_2
                try clear hfz27_0
                try clear hfz27_1
                try clear hfz27_2
                try clear hfz34_0
                try clear hfz34_1
                try clear hfz40_0
                try clear hfz40_1
                try clear hfz43_0
                try clear hfz43_1
                try clear hfz48_0
                try clear hfz48_1
                try clear hfz51_0
                try clear hfz51_1
                try clear hfz5_0
                try clear hfz5_1
                try clear hfz5_2
                try clear p2
                obtain ⟨kq, HA, HJ56, HO_177000, HO_183000, HO_189000, BK164, BK176, BK182, BK188, HB⟩ := hcut
                cases kq with
                | zero => exact absurd HA.out (by simp [laws_FnExactFirstCamp.j3])
                | succ kj56 =>
                  have H := HA.out
                  clear HA
                  simp only [laws_FnExactFirstCamp.j3] at H
                  replace H := Option.bind_eq_some_iff.mp H
                  obtain ⟨⟨t196, t197⟩, A630, H⟩ := H
                  replace H : (if t196 < 0 then (laws_FnExactFirstCamp.j4 kj56 t175 true l0_0 a0_1 a0_2 t171 t174 t183 t186) else ((laws_eqCamp.f kj56 t183 t186 t171 t174).bind fun t198 => (if t198 = true then (laws_FnExactFirstCamp.j4 kj56 t175 (t187 != t175) l0_0 a0_1 a0_2 t171 t174 t183 t186) else (laws_FnExactFirstCamp.j4 kj56 t175 true l0_0 a0_1 a0_2 t171 t174 t183 t186)))) = some r := H
                  have A63 := Aside0.mk A630
                  clear A630
                  have HC64 := Aside0.mk H
                  clear H
                  have hnb65 := NB182_164.out
                  have hnc65 := NB164_182.out
                  have hnb66 := NB182_176.out
                  have hnc66 := NB176_182.out
                  have hnb67 := NB182_188.out
                  have hnc67 := NB188_182.out
                  have hcz68_0 : wc.cell? ⟨gb182, 0, none⟩ = some (.slice Ao24 t177.length co24) := (blk_cell BK182.out 0).trans rfl
                  have hcz68_1 : wc.cell? ⟨gb182, 1, none⟩ = some (.int .i64 t180) := (blk_cell BK182.out 1).trans rfl
                  have hcz68_2 : wc.cell? ⟨gb182, 2, none⟩ = some (.int .i64 t181) := (blk_cell BK182.out 2).trans rfl
                  have hfz68_0 := blk_frozen BK182.out 0
                  have hfz68_1 := blk_frozen BK182.out 1
                  have hfz68_2 := blk_frozen BK182.out 2
                  go_upto_region 14 with (first | ((with_reducible refine gate_callee (f := 21) rfl ?_); refine goesL_ (some 48) rfl rfl Try.func21 (by kernel_rfl) rfl #[.agg #[.slice Ao24 t177.length co24, .int .i64 t180, .int .i64 t181], .int .i64 1] rfl (by (try simp only [List.map_toArray, List.map_cons, List.map_nil]); first | done | rfl | (simp only [List.length_drop, List.length_take]; rfl)) ?_; (with_reducible refine (laws_markNight.calls kj56 (fun k_ => some k_ = (.slice Ao24 t177.length co24 : Value).ownBlock) (.slice Ao24 t177.length co24) t177 t180 t181 1 t196 t197 w _ ?side1 ?side2 A63.out).mono ?_); (case side1 => repeat (first | (with_reducible first | exact HB.out | apply below_alloc | apply pw_below_drewN | apply below_drew1 | refine below_set ?_ GE164.out | refine below_set ?_ GE176.out | refine below_set ?_ GE182.out | refine below_set ?_ GE188.out) | exact HB.out)); (case side2 => exact Kd.R_tight rfl HO_183000.out); rintro e w69 ⟨rfl, hy0, hb, hkp⟩; refine ⟨_, rfl, ?_⟩; have n0_ := Aside0.mk (Kd.R_mono (ok' := fun k_ => some k_ ≠ (.slice Ao30 t183.length co30 : Value).ownBlock ∧ ¬ D216_ k_ ∧ D217_ k_ ∧ D218_ k_) (Kd.R_keptB ((Kd.R_apart' HO_177000.out (Kd.R_typed HO_183000.out) (by decide))) hkp (fun k_ hk_ hs_ => (hk_.2) hs_)) (fun k_ hk_ => ⟨hk_.1.1.1, hk_.1.1.2.1, hk_.1.1.2.2.1, hk_.1.1.2.2.2⟩)); have n1_ := Aside0.mk (Kd.R_reok rfl hy0 (fun k_ e_ => HO_183000.out.1 k_ e_)); have n2_ := Aside0.mk (Kd.R_mono (ok' := fun k_ => some k_ ≠ (.slice Ao18 t171.length co18 : Value).ownBlock ∧ ¬ D218_ k_) (Kd.R_keptB ((Kd.R_apart' HO_189000.out (Kd.R_typed HO_183000.out) (by decide))) hkp (fun k_ hk_ hs_ => (hk_.2) hs_)) (fun k_ hk_ => ⟨hk_.1.1.1, hk_.1.1.2⟩)); have n3_ := Aside0.mk (blk_kept (by (with_reducible repeat (first | refine blk_drewN ?_ _ | refine blk_drew ?_ | refine blk_alloc ?_ _)); exact BK164.out) hkp (fun hs_ => (fun e_ => (Kd.R_ne HO_183000.out BK164.out (by decide)) e_) hs_)); have n4_ := Aside0.mk (blk_kept (by (with_reducible repeat (first | refine blk_drewN ?_ _ | refine blk_drew ?_ | refine blk_alloc ?_ _)); exact BK176.out) hkp (fun hs_ => (fun e_ => (Kd.R_ne HO_183000.out BK176.out (by decide)) e_) hs_)); have n5_ := Aside0.mk (blk_kept (by (with_reducible repeat (first | refine blk_drewN ?_ _ | refine blk_drew ?_ | refine blk_alloc ?_ _)); exact BK182.out) hkp (fun hs_ => (fun e_ => (Kd.R_ne HO_183000.out BK182.out (by decide)) e_) hs_)); have n6_ := Aside0.mk (blk_kept (by (with_reducible repeat (first | refine blk_drewN ?_ _ | refine blk_drew ?_ | refine blk_alloc ?_ _)); exact BK188.out) hkp (fun hs_ => (fun e_ => (Kd.R_ne HO_183000.out BK188.out (by decide)) e_) hs_)); have n7_ := Aside0.mk (hb); clear HO_177000; clear HO_183000; clear HO_189000; clear BK164; clear BK176; clear BK182; clear BK188; clear HB; have HO_177000 := n0_; have HO_183000 := n1_; have HO_189000 := n2_; have BK164 := n3_; have BK176 := n4_; have BK182 := n5_; have BK188 := n6_; have HB := n7_; clear n0_ n1_ n2_ n3_ n4_ n5_ n6_ n7_; (try clear hb); (try clear hkp); (try clear hy0)))
                  (try simp only [Act.put, List.setIfInBounds_toArray, List.set_cons_zero, List.set_cons_succ])
                  go_cut [61] (fun v61 wc => ∃ (kq : Nat) (x61_63 : Bool), v61 = .bool x61_63 ∧ Aside0 (laws_FnExactFirstCamp.j4 kq t175 x61_63 l0_0 a0_1 a0_2 t171 t174 t183 t186 = some r) ∧ Aside0 (kq ≤ kj56) ∧ Aside0 (Kd.R Kd.bool 4 wc w.heap.size (fun k_ => some k_ ≠ ((.slice Ao30 t183.length co30) : Value).ownBlock ∧ ¬ D216_ k_ ∧ D217_ k_ ∧ D218_ k_) (.slice Ao18 t171.length co18) t171) ∧ Aside0 (Kd.R (Kd.int .i64) 3 wc w.heap.size (fun k_ => ¬ D217_ k_ ∧ D218_ k_) (.slice Ao24 t177.length co24) t197) ∧ Aside0 (Kd.R Kd.bool 4 wc w.heap.size (fun k_ => some k_ ≠ ((.slice Ao18 t171.length co18) : Value).ownBlock ∧ ¬ D218_ k_) (.slice Ao30 t183.length co30) t183) ∧ Aside0 (wc.heap[gb164]? = some (.cells #[(.slice A0_0 l0_0.length c0_0), .int .i64 a0_1, .int .i64 a0_2] 24 (0, 0))) ∧ Aside0 (wc.heap[gb176]? = some (.cells #[(.slice Ao18 t171.length co18), .int .i64 t174] 28 (0, 0))) ∧ Aside0 (wc.heap[gb182]? = some (.cells #[(.slice Ao24 t177.length co24), .int .i64 t180, .int .i64 t181] 31 (0, 0))) ∧ Aside0 (wc.heap[gb188]? = some (.cells #[(.slice Ao30 t183.length co30), .int .i64 t186] 28 (0, 0))) ∧ Aside0 (Below w.heap.size w wc))
                  case first =>
                    have H := HC64.out
                    clear HC64
                    by_cases c70 : t196 < 0
                    · rw [if_pos c70] at H
                      have c70b0 : decide (t196 < 0) = true := decide_eq_true c70
                      clear c70
                      (first | rw [c70b0] | (simp only [i64_w, i32_w]; rw [c70b0]) | skip)
                      have H' := Aside0.mk H
                      clear H
                      go_wp2
                      go_meet
                      case rel => exact ⟨_, (true), (by first | rfl | (simp; done) | (simp [*]; done)), H', ⟨by have := HJ2.out; have := HJ11.out; have := HJ52.out; have := HJ56.out; first | omega | exact Nat.le_refl _⟩, ⟨by (with_reducible repeat (first | apply Kd.R_alloc | apply Kd.R_drewN | apply Kd.R_drew)); exact HO_177000.out⟩, ⟨by (with_reducible repeat (first | apply Kd.R_alloc | apply Kd.R_drewN | apply Kd.R_drew)); exact HO_183000.out⟩, ⟨by (with_reducible repeat (first | apply Kd.R_alloc | apply Kd.R_drewN | apply Kd.R_drew)); exact HO_189000.out⟩, ⟨by (with_reducible repeat (first | refine blk_drewN ?_ _ | refine blk_drew ?_ | refine blk_alloc ?_ _)); exact BK164.out⟩, ⟨by (with_reducible repeat (first | refine blk_drewN ?_ _ | refine blk_drew ?_ | refine blk_alloc ?_ _)); exact BK176.out⟩, ⟨by (with_reducible repeat (first | refine blk_drewN ?_ _ | refine blk_drew ?_ | refine blk_alloc ?_ _)); exact BK182.out⟩, ⟨by (with_reducible repeat (first | refine blk_drewN ?_ _ | refine blk_drew ?_ | refine blk_alloc ?_ _)); exact BK188.out⟩, ⟨by repeat (first | (with_reducible first | exact HB.out | apply below_alloc | apply pw_below_drewN | apply below_drew1 | refine below_set ?_ GE164.out | refine below_set ?_ GE176.out | refine below_set ?_ GE182.out | refine below_set ?_ GE188.out) | exact HB.out)⟩⟩
                    · rw [if_neg c70] at H
                      have c70b0 : decide (t196 < 0) = false := decide_eq_false c70
                      clear c70
                      (first | rw [c70b0] | (simp only [i64_w, i32_w]; rw [c70b0]) | skip)
                      replace H := Option.bind_eq_some_iff.mp H
                      obtain ⟨t198, A710, H⟩ := H
                      replace H : (if t198 = true then (laws_FnExactFirstCamp.j4 kj56 t175 (t187 != t175) l0_0 a0_1 a0_2 t171 t174 t183 t186) else (laws_FnExactFirstCamp.j4 kj56 t175 true l0_0 a0_1 a0_2 t171 t174 t183 t186)) = some r := H
                      have A71 := Aside0.mk A710
                      clear A710
                      by_cases c72 : t198 = true
                      · subst c72
                        have H1 : (laws_FnExactFirstCamp.j4 kj56 t175 (t187 != t175) l0_0 a0_1 a0_2 t171 t174 t183 t186) = some r := by rw [if_pos rfl] at H; exact H
                        clear H
                        have H := H1
                        clear H1
                        have H' := Aside0.mk H
                        clear H
                        have hnb73 := NB188_164.out
                        have hnc73 := NB164_188.out
                        have hnb74 := NB188_176.out
                        have hnc74 := NB176_188.out
                        have hnb75 := NB188_182.out
                        have hnc75 := NB182_188.out
                        have hcz76_0 : w69.cell? ⟨gb188, 0, none⟩ = some (.slice Ao30 t183.length co30) := (blk_cell BK188.out 0).trans rfl
                        have hcz76_1 : w69.cell? ⟨gb188, 1, none⟩ = some (.int .i64 t186) := (blk_cell BK188.out 1).trans rfl
                        have hfz76_0 := blk_frozen BK188.out 0
                        have hfz76_1 := blk_frozen BK188.out 1
                        have hnb77 := NB176_164.out
                        have hnc77 := NB164_176.out
                        have hnb78 := NB176_182.out
                        have hnc78 := NB182_176.out
                        have hcz79_0 : w69.cell? ⟨gb176, 0, none⟩ = some (.slice Ao18 t171.length co18) := (blk_cell BK176.out 0).trans rfl
                        have hcz79_1 : w69.cell? ⟨gb176, 1, none⟩ = some (.int .i64 t174) := (blk_cell BK176.out 1).trans rfl
                        have hfz79_0 := blk_frozen BK176.out 0
                        have hfz79_1 := blk_frozen BK176.out 1
                        go_wp2_with (first | (go_at_call 19; (with_reducible refine (laws_eqCamp.calls kj56 _ _ t183 t186 _ _ t171 t174 true _ ?side1 ?side2 ?side3 ?side4 A71.out).mono ?_); (case side1 => repeat (first | exact (Kd.R_reads' HO_189000.out).2.2 | (with_reducible refine Kd.C_alloc ?_ _) | (with_reducible refine Kd.C_drewN ?_ _) | (with_reducible refine Kd.C_drew ?_))); (case side2 => exact (Kd.R_reads' HO_189000.out).2.1); (case side3 => repeat (first | exact (Kd.R_reads' HO_177000.out).2.2 | (with_reducible refine Kd.C_alloc ?_ _) | (with_reducible refine Kd.C_drewN ?_ _) | (with_reducible refine Kd.C_drew ?_))); (case side4 => exact (Kd.R_reads' HO_177000.out).2.1); rintro e w80 ⟨rfl, hb⟩; have n0_ := Aside0.mk (Kd.R_below (by (with_reducible repeat (first | apply Kd.R_alloc | apply Kd.R_drewN | apply Kd.R_drew)); exact HO_177000.out) hb); have n1_ := Aside0.mk (Kd.R_below (by (with_reducible repeat (first | apply Kd.R_alloc | apply Kd.R_drewN | apply Kd.R_drew)); exact HO_183000.out) hb); have n2_ := Aside0.mk (Kd.R_below (by (with_reducible repeat (first | apply Kd.R_alloc | apply Kd.R_drewN | apply Kd.R_drew)); exact HO_189000.out) hb); have n3_ := Aside0.mk (blk_below (g := gb164) (o := .cells #[.slice A0_0 l0_0.length c0_0, .int .i64 a0_1, .int .i64 a0_2] 24 (0, 0)) (by (with_reducible repeat (first | refine blk_drewN ?_ _ | refine blk_drew ?_ | refine blk_alloc ?_ _)); exact BK164.out) hb); have n4_ := Aside0.mk (blk_below (g := gb176) (o := .cells #[.slice Ao18 t171.length co18, .int .i64 t174] 28 (0, 0)) (by (with_reducible repeat (first | refine blk_drewN ?_ _ | refine blk_drew ?_ | refine blk_alloc ?_ _)); exact BK176.out) hb); have n5_ := Aside0.mk (blk_below (g := gb182) (o := .cells #[.slice Ao24 t177.length co24, .int .i64 t180, .int .i64 t181] 31 (0, 0)) (by (with_reducible repeat (first | refine blk_drewN ?_ _ | refine blk_drew ?_ | refine blk_alloc ?_ _)); exact BK182.out) hb); have n6_ := Aside0.mk (blk_below (g := gb188) (o := .cells #[.slice Ao30 t183.length co30, .int .i64 t186] 28 (0, 0)) (by (with_reducible repeat (first | refine blk_drewN ?_ _ | refine blk_drew ?_ | refine blk_alloc ?_ _)); exact BK188.out) hb); have n7_ := Aside0.mk (below_step (by repeat (first | (with_reducible first | exact HB.out | apply below_alloc | apply pw_below_drewN | apply below_drew1 | refine below_set ?_ GE164.out | refine below_set ?_ GE176.out | refine below_set ?_ GE182.out | refine below_set ?_ GE188.out) | exact HB.out)) hb); clear HO_177000; clear HO_183000; clear HO_189000; clear BK164; clear BK176; clear BK182; clear BK188; clear HB; have HO_177000 := n0_; have HO_183000 := n1_; have HO_189000 := n2_; have BK164 := n3_; have BK176 := n4_; have BK182 := n5_; have BK188 := n6_; have HB := n7_; clear n0_ n1_ n2_ n3_ n4_ n5_ n6_ n7_; (try clear hb); (try clear hb2); (try clear hk); (try clear hi)))
                        go_meet
                        case rel => exact ⟨_, ((t187 != t175)), (by first | rfl | (simp; done) | (simp [*]; done)), H', ⟨by have := HJ2.out; have := HJ11.out; have := HJ52.out; have := HJ56.out; first | omega | exact Nat.le_refl _⟩, ⟨by (with_reducible repeat (first | apply Kd.R_alloc | apply Kd.R_drewN | apply Kd.R_drew)); exact HO_177000.out⟩, ⟨by (with_reducible repeat (first | apply Kd.R_alloc | apply Kd.R_drewN | apply Kd.R_drew)); exact HO_183000.out⟩, ⟨by (with_reducible repeat (first | apply Kd.R_alloc | apply Kd.R_drewN | apply Kd.R_drew)); exact HO_189000.out⟩, ⟨by (with_reducible repeat (first | refine blk_drewN ?_ _ | refine blk_drew ?_ | refine blk_alloc ?_ _)); exact BK164.out⟩, ⟨by (with_reducible repeat (first | refine blk_drewN ?_ _ | refine blk_drew ?_ | refine blk_alloc ?_ _)); exact BK176.out⟩, ⟨by (with_reducible repeat (first | refine blk_drewN ?_ _ | refine blk_drew ?_ | refine blk_alloc ?_ _)); exact BK182.out⟩, ⟨by (with_reducible repeat (first | refine blk_drewN ?_ _ | refine blk_drew ?_ | refine blk_alloc ?_ _)); exact BK188.out⟩, ⟨by repeat (first | (with_reducible first | exact HB.out | apply below_alloc | apply pw_below_drewN | apply below_drew1 | refine below_set ?_ GE164.out | refine below_set ?_ GE176.out | refine below_set ?_ GE182.out | refine below_set ?_ GE188.out) | exact HB.out)⟩⟩
                      · replace c72 := Bool.eq_false_iff.mpr c72
                        subst c72
                        have H1 : (laws_FnExactFirstCamp.j4 kj56 t175 true l0_0 a0_1 a0_2 t171 t174 t183 t186) = some r := by rw [if_neg (show ¬ (false = true) by decide)] at H; exact H
                        clear H
                        have H := H1
                        clear H1
                        have H' := Aside0.mk H
                        clear H
                        have hnb81 := NB188_164.out
                        have hnc81 := NB164_188.out
                        have hnb82 := NB188_176.out
                        have hnc82 := NB176_188.out
                        have hnb83 := NB188_182.out
                        have hnc83 := NB182_188.out
                        have hcz84_0 : w69.cell? ⟨gb188, 0, none⟩ = some (.slice Ao30 t183.length co30) := (blk_cell BK188.out 0).trans rfl
                        have hcz84_1 : w69.cell? ⟨gb188, 1, none⟩ = some (.int .i64 t186) := (blk_cell BK188.out 1).trans rfl
                        have hfz84_0 := blk_frozen BK188.out 0
                        have hfz84_1 := blk_frozen BK188.out 1
                        have hnb85 := NB176_164.out
                        have hnc85 := NB164_176.out
                        have hnb86 := NB176_182.out
                        have hnc86 := NB182_176.out
                        have hcz87_0 : w69.cell? ⟨gb176, 0, none⟩ = some (.slice Ao18 t171.length co18) := (blk_cell BK176.out 0).trans rfl
                        have hcz87_1 : w69.cell? ⟨gb176, 1, none⟩ = some (.int .i64 t174) := (blk_cell BK176.out 1).trans rfl
                        have hfz87_0 := blk_frozen BK176.out 0
                        have hfz87_1 := blk_frozen BK176.out 1
                        go_wp2_with (first | (go_at_call 19; (with_reducible refine (laws_eqCamp.calls kj56 _ _ t183 t186 _ _ t171 t174 false _ ?side1 ?side2 ?side3 ?side4 A71.out).mono ?_); (case side1 => repeat (first | exact (Kd.R_reads' HO_189000.out).2.2 | (with_reducible refine Kd.C_alloc ?_ _) | (with_reducible refine Kd.C_drewN ?_ _) | (with_reducible refine Kd.C_drew ?_))); (case side2 => exact (Kd.R_reads' HO_189000.out).2.1); (case side3 => repeat (first | exact (Kd.R_reads' HO_177000.out).2.2 | (with_reducible refine Kd.C_alloc ?_ _) | (with_reducible refine Kd.C_drewN ?_ _) | (with_reducible refine Kd.C_drew ?_))); (case side4 => exact (Kd.R_reads' HO_177000.out).2.1); rintro e w88 ⟨rfl, hb⟩; have n0_ := Aside0.mk (Kd.R_below (by (with_reducible repeat (first | apply Kd.R_alloc | apply Kd.R_drewN | apply Kd.R_drew)); exact HO_177000.out) hb); have n1_ := Aside0.mk (Kd.R_below (by (with_reducible repeat (first | apply Kd.R_alloc | apply Kd.R_drewN | apply Kd.R_drew)); exact HO_183000.out) hb); have n2_ := Aside0.mk (Kd.R_below (by (with_reducible repeat (first | apply Kd.R_alloc | apply Kd.R_drewN | apply Kd.R_drew)); exact HO_189000.out) hb); have n3_ := Aside0.mk (blk_below (g := gb164) (o := .cells #[.slice A0_0 l0_0.length c0_0, .int .i64 a0_1, .int .i64 a0_2] 24 (0, 0)) (by (with_reducible repeat (first | refine blk_drewN ?_ _ | refine blk_drew ?_ | refine blk_alloc ?_ _)); exact BK164.out) hb); have n4_ := Aside0.mk (blk_below (g := gb176) (o := .cells #[.slice Ao18 t171.length co18, .int .i64 t174] 28 (0, 0)) (by (with_reducible repeat (first | refine blk_drewN ?_ _ | refine blk_drew ?_ | refine blk_alloc ?_ _)); exact BK176.out) hb); have n5_ := Aside0.mk (blk_below (g := gb182) (o := .cells #[.slice Ao24 t177.length co24, .int .i64 t180, .int .i64 t181] 31 (0, 0)) (by (with_reducible repeat (first | refine blk_drewN ?_ _ | refine blk_drew ?_ | refine blk_alloc ?_ _)); exact BK182.out) hb); have n6_ := Aside0.mk (blk_below (g := gb188) (o := .cells #[.slice Ao30 t183.length co30, .int .i64 t186] 28 (0, 0)) (by (with_reducible repeat (first | refine blk_drewN ?_ _ | refine blk_drew ?_ | refine blk_alloc ?_ _)); exact BK188.out) hb); have n7_ := Aside0.mk (below_step (by repeat (first | (with_reducible first | exact HB.out | apply below_alloc | apply pw_below_drewN | apply below_drew1 | refine below_set ?_ GE164.out | refine below_set ?_ GE176.out | refine below_set ?_ GE182.out | refine below_set ?_ GE188.out) | exact HB.out)) hb); clear HO_177000; clear HO_183000; clear HO_189000; clear BK164; clear BK176; clear BK182; clear BK188; clear HB; have HO_177000 := n0_; have HO_183000 := n1_; have HO_189000 := n2_; have BK164 := n3_; have BK176 := n4_; have BK182 := n5_; have BK188 := n6_; have HB := n7_; clear n0_ n1_ n2_ n3_ n4_ n5_ n6_ n7_; (try clear hb); (try clear hb2); (try clear hk); (try clear hi)))
                        go_meet
                        case rel => exact ⟨_, (true), (by first | rfl | (simp; done) | (simp [*]; done)), H', ⟨by have := HJ2.out; have := HJ11.out; have := HJ52.out; have := HJ56.out; first | omega | exact Nat.le_refl _⟩, ⟨by (with_reducible repeat (first | apply Kd.R_alloc | apply Kd.R_drewN | apply Kd.R_drew)); exact HO_177000.out⟩, ⟨by (with_reducible repeat (first | apply Kd.R_alloc | apply Kd.R_drewN | apply Kd.R_drew)); exact HO_183000.out⟩, ⟨by (with_reducible repeat (first | apply Kd.R_alloc | apply Kd.R_drewN | apply Kd.R_drew)); exact HO_189000.out⟩, ⟨by (with_reducible repeat (first | refine blk_drewN ?_ _ | refine blk_drew ?_ | refine blk_alloc ?_ _)); exact BK164.out⟩, ⟨by (with_reducible repeat (first | refine blk_drewN ?_ _ | refine blk_drew ?_ | refine blk_alloc ?_ _)); exact BK176.out⟩, ⟨by (with_reducible repeat (first | refine blk_drewN ?_ _ | refine blk_drew ?_ | refine blk_alloc ?_ _)); exact BK182.out⟩, ⟨by (with_reducible repeat (first | refine blk_drewN ?_ _ | refine blk_drew ?_ | refine blk_alloc ?_ _)); exact BK188.out⟩, ⟨by repeat (first | (with_reducible first | exact HB.out | apply below_alloc | apply pw_below_drewN | apply below_drew1 | refine below_set ?_ GE164.out | refine below_set ?_ GE176.out | refine below_set ?_ GE182.out | refine below_set ?_ GE188.out) | exact HB.out)⟩⟩
                  case rest =>
                    clear HC64
                    try clear c1
                    try clear c2
                    try clear p2
                    try clear c3
                    try clear c4
                    try clear c5
                    try clear c6
                    try clear c7
                    try clear c7b0
                    try clear c8
                    try clear c15
                    try clear c16
                    try clear c17
                    try clear c18
                    try clear c19
                    try clear c20
                    try clear c21
                    try clear c25
                    try clear c26
                    try clear c31
                    try clear c32
                    try clear c33
                    try clear c36
                    try clear c37
                    try clear c38
                    try clear c39
                    try clear c41
                    try clear c42
                    try clear c45
                    try clear c46
                    try clear c47
                    try clear c49
                    try clear c50
                    try clear c54
                    try clear c62
                    try clear c65
                    try clear c66
                    try clear c67
                    try clear c70
                    try clear c70b0
                    try clear c72
                    try clear c73
                    try clear c74
                    try clear c75
                    try clear c77
                    try clear c78
                    try clear c81
                    try clear c82
                    try clear c83
                    try clear c85
                    try clear c86
                    try clear hcz13_0
                    try clear hcz13_1
                    try clear hcz13_2
                    try clear hcz20_0
                    try clear hcz20_1
                    try clear hcz21_0
                    try clear hcz21_1
                    try clear hcz21_2
                    try clear hcz27_0
                    try clear hcz27_1
                    try clear hcz27_2
                    try clear hcz34_0
                    try clear hcz34_1
                    try clear hcz40_0
                    try clear hcz40_1
                    try clear hcz43_0
                    try clear hcz43_1
                    try clear hcz48_0
                    try clear hcz48_1
                    try clear hcz51_0
                    try clear hcz51_1
                    try clear hcz5_0
                    try clear hcz5_1
                    try clear hcz5_2
                    try clear hcz68_0
                    try clear hcz68_1
                    try clear hcz68_2
                    try clear hcz76_0
                    try clear hcz76_1
                    try clear hcz79_0
                    try clear hcz79_1
                    try clear hcz84_0
                    try clear hcz84_1
                    try clear hcz87_0
                    try clear hcz87_1
                    try clear hfz13_0
                    try clear hfz13_1
                    try clear hfz13_2
                    try clear hfz20_0
                    try clear hfz20_1
                    try clear hfz21_0
                    try clear hfz21_1
                    try clear hfz21_2
                    try clear hfz27_0
                    try clear hfz27_1
                    try clear hfz27_2
                    try clear hfz34_0
                    try clear hfz34_1
                    try clear hfz40_0
                    try clear hfz40_1
                    try clear hfz43_0
                    try clear hfz43_1
                    try clear hfz48_0
                    try clear hfz48_1
                    try clear hfz51_0
                    try clear hfz51_1
                    try clear hfz5_0
                    try clear hfz5_1
                    try clear hfz5_2
                    try clear hfz68_0
                    try clear hfz68_1
                    try clear hfz68_2
                    try clear hfz76_0
                    try clear hfz76_1
                    try clear hfz79_0
                    try clear hfz79_1
                    try clear hfz84_0
                    try clear hfz84_1
                    try clear hfz87_0
                    try clear hfz87_1
                    try clear p2
                    obtain ⟨kq, x61_63, rfl, HA, HJ63, HO_177000, HO_183000, HO_189000, BK164, BK176, BK182, BK188, HB⟩ := hcut
                    have hl183000_63 := (Kd.R_reads' HO_183000.out).1
                    rw [hl183000_63] at HO_183000
                    (try simp only [hl183000_63])
                    (try simp only [hl183000_63] at BK164)
                    (try simp only [hl183000_63] at BK176)
                    (try simp only [hl183000_63] at BK182)
                    (try simp only [hl183000_63] at BK188)
                    (try simp only [hl183000_63] at HO_177000)
                    (try simp only [hl183000_63] at HO_189000)
                    cases kq with
                    | zero => exact absurd HA.out (by simp [laws_FnExactFirstCamp.j4])
                    | succ kj63 =>
                      have H := HA.out
                      clear HA
                      simp only [laws_FnExactFirstCamp.j4] at H
                      have HC89 := Aside0.mk H
                      clear H
                      go_upto_if 61 with (fail)
                      go_cut [] (fun wc => ∃ (kq : Nat), Aside0 (laws_FnExactFirstCamp.j5 kq t175 l0_0 a0_1 a0_2 t171 t174 t183 t186 = some r) ∧ Aside0 (kq ≤ kj63) ∧ Aside0 (Kd.R Kd.bool 4 wc w.heap.size (fun k_ => some k_ ≠ ((.slice Ao30 t183.length co30) : Value).ownBlock ∧ ¬ D216_ k_ ∧ D217_ k_ ∧ D218_ k_) (.slice Ao18 t171.length co18) t171) ∧ Aside0 (Kd.R (Kd.int .i64) 3 wc w.heap.size (fun k_ => ¬ D217_ k_ ∧ D218_ k_) (.slice Ao24 t197.length co24) t197) ∧ Aside0 (Kd.R Kd.bool 4 wc w.heap.size (fun k_ => some k_ ≠ ((.slice Ao18 t171.length co18) : Value).ownBlock ∧ ¬ D218_ k_) (.slice Ao30 t183.length co30) t183) ∧ Aside0 (wc.heap[gb164]? = some (.cells #[(.slice A0_0 l0_0.length c0_0), .int .i64 a0_1, .int .i64 a0_2] 24 (0, 0))) ∧ Aside0 (wc.heap[gb176]? = some (.cells #[(.slice Ao18 t171.length co18), .int .i64 t174] 28 (0, 0))) ∧ Aside0 (wc.heap[gb182]? = some (.cells #[(.slice Ao24 t197.length co24), .int .i64 t180, .int .i64 t181] 31 (0, 0))) ∧ Aside0 (wc.heap[gb188]? = some (.cells #[(.slice Ao30 t183.length co30), .int .i64 t186] 28 (0, 0))) ∧ Aside0 (Below w.heap.size w wc))
                      case first =>
                        have H := HC89.out
                        clear HC89
                        by_cases c90 : x61_63 = true
                        · subst c90
                          have H1 : (some false) = some r := by rw [if_pos rfl] at H; exact H
                          clear H
                          have H := H1
                          clear H1
                          obtain rfl := Option.some.inj H
                          go_wp2
                          go_ret
                          exact ⟨by first | rfl | (simp [errW_none, errW_some] <;> rfl) | (simp [*, errW_none, errW_some] <;> rfl), by repeat (first | (with_reducible first | exact HB.out | apply below_alloc | apply pw_below_drewN | apply below_drew1 | refine below_set ?_ GE164.out | refine below_set ?_ GE176.out | refine below_set ?_ GE182.out | refine below_set ?_ GE188.out) | exact HB.out)⟩
                        · replace c90 := Bool.eq_false_iff.mpr c90
                          subst c90
                          have H1 : (laws_FnExactFirstCamp.j5 kj63 t175 l0_0 a0_1 a0_2 t171 t174 t183 t186) = some r := by rw [if_neg (show ¬ (false = true) by decide)] at H; exact H
                          clear H
                          have H := H1
                          clear H1
                          have H' := Aside0.mk H
                          clear H
                          go_wp2
                          go_meet
                          case rel => exact ⟨_, H', ⟨by have := HJ2.out; have := HJ11.out; have := HJ52.out; have := HJ56.out; have := HJ63.out; first | omega | exact Nat.le_refl _⟩, ⟨by (try simp only [hl183000_63]); (with_reducible repeat (first | apply Kd.R_alloc | apply Kd.R_drewN | apply Kd.R_drew)); exact HO_177000.out⟩, ⟨by (try simp only [hl183000_63]); (with_reducible repeat (first | apply Kd.R_alloc | apply Kd.R_drewN | apply Kd.R_drew)); exact HO_183000.out⟩, ⟨by (try simp only [hl183000_63]); (with_reducible repeat (first | apply Kd.R_alloc | apply Kd.R_drewN | apply Kd.R_drew)); exact HO_189000.out⟩, ⟨by (try simp only [hl183000_63]); (with_reducible repeat (first | refine blk_drewN ?_ _ | refine blk_drew ?_ | refine blk_alloc ?_ _)); exact BK164.out⟩, ⟨by (try simp only [hl183000_63]); (with_reducible repeat (first | refine blk_drewN ?_ _ | refine blk_drew ?_ | refine blk_alloc ?_ _)); exact BK176.out⟩, ⟨by (try simp only [hl183000_63]); (with_reducible repeat (first | refine blk_drewN ?_ _ | refine blk_drew ?_ | refine blk_alloc ?_ _)); exact BK182.out⟩, ⟨by (try simp only [hl183000_63]); (with_reducible repeat (first | refine blk_drewN ?_ _ | refine blk_drew ?_ | refine blk_alloc ?_ _)); exact BK188.out⟩, ⟨by repeat (first | (with_reducible first | exact HB.out | apply below_alloc | apply pw_below_drewN | apply below_drew1 | refine below_set ?_ GE164.out | refine below_set ?_ GE176.out | refine below_set ?_ GE182.out | refine below_set ?_ GE188.out) | exact HB.out)⟩⟩
                      case rest =>
                        clear HC89
                        try clear c1
                        try clear c2
                        try clear p2
                        try clear c3
                        try clear c4
                        try clear c5
                        try clear c6
                        try clear c7
                        try clear c7b0
                        try clear c8
                        try clear c9
                        try clear c15
                        try clear c16
                        try clear c17
                        try clear c18
                        try clear c19
                        try clear c20
                        try clear c21
                        try clear c25
                        try clear c26
                        try clear c31
                        try clear c32
                        try clear c33
                        try clear c36
                        try clear c37
                        try clear c38
                        try clear c39
                        try clear c41
                        try clear c42
                        try clear c45
                        try clear c46
                        try clear c47
                        try clear c49
                        try clear c50
                        try clear c54
                        try clear c62
                        try clear c65
                        try clear c66
                        try clear c67
                        try clear c70
                        try clear c70b0
                        try clear c72
                        try clear c73
                        try clear c74
                        try clear c75
                        try clear c77
                        try clear c78
                        try clear c81
                        try clear c82
                        try clear c83
                        try clear c85
                        try clear c86
                        try clear c90
                        try clear hcz13_0
                        try clear hcz13_1
                        try clear hcz13_2
                        try clear hcz20_0
                        try clear hcz20_1
                        try clear hcz21_0
                        try clear hcz21_1
                        try clear hcz21_2
                        try clear hcz27_0
                        try clear hcz27_1
                        try clear hcz27_2
                        try clear hcz34_0
                        try clear hcz34_1
                        try clear hcz40_0
                        try clear hcz40_1
                        try clear hcz43_0
                        try clear hcz43_1
                        try clear hcz48_0
                        try clear hcz48_1
                        try clear hcz51_0
                        try clear hcz51_1
                        try clear hcz5_0
                        try clear hcz5_1
                        try clear hcz5_2
                        try clear hcz68_0
                        try clear hcz68_1
                        try clear hcz68_2
                        try clear hcz76_0
                        try clear hcz76_1
                        try clear hcz79_0
                        try clear hcz79_1
                        try clear hcz84_0
                        try clear hcz84_1
                        try clear hcz87_0
                        try clear hcz87_1
                        try clear hfz13_0
                        try clear hfz13_1
                        try clear hfz13_2
                        try clear hfz20_0
                        try clear hfz20_1
                        try clear hfz21_0
                        try clear hfz21_1
                        try clear hfz21_2
                        try clear hfz27_0
                        try clear hfz27_1
                        try clear hfz27_2
                        try clear hfz34_0
                        try clear hfz34_1
                        try clear hfz40_0
                        try clear hfz40_1
                        try clear hfz43_0
                        try clear hfz43_1
                        try clear hfz48_0
                        try clear hfz48_1
                        try clear hfz51_0
                        try clear hfz51_1
                        try clear hfz5_0
                        try clear hfz5_1
                        try clear hfz5_2
                        try clear hfz68_0
                        try clear hfz68_1
                        try clear hfz68_2
                        try clear hfz76_0
                        try clear hfz76_1
                        try clear hfz79_0
                        try clear hfz79_1
                        try clear hfz84_0
                        try clear hfz84_1
                        try clear hfz87_0
                        try clear hfz87_1
                        try clear p2
                        obtain ⟨kq, HA, HJ88, HO_177000, HO_183000, HO_189000, BK164, BK176, BK182, BK188, HB⟩ := hcut
                        cases kq with
                        | zero => exact absurd HA.out (by simp [laws_FnExactFirstCamp.j5])
                        | succ kj88 =>
                          have H := HA.out
                          clear HA
                          simp only [laws_FnExactFirstCamp.j5] at H
                          replace H := Option.bind_eq_some_iff.mp H
                          obtain ⟨⟨t199, t200⟩, A910, H⟩ := H
                          replace H : ((laws_heldCamp.f kj88 t200 t186 1).bind fun t201 => (if t201 < 0 then (some false) else (laws_FnExactFirstCamp.j6 kj88 t175 t199 t201 l0_0 a0_1 a0_2 t171 t174 t200 t186))) = some r := H
                          have A91 := Aside0.mk A910
                          clear A910
                          replace H := Option.bind_eq_some_iff.mp H
                          obtain ⟨t201, A920, H⟩ := H
                          replace H : (if t201 < 0 then (some false) else (laws_FnExactFirstCamp.j6 kj88 t175 t199 t201 l0_0 a0_1 a0_2 t171 t174 t200 t186)) = some r := H
                          have A92 := Aside0.mk A920
                          clear A920
                          have HC93 := Aside0.mk H
                          clear H
                          have hnb94 := NB188_164.out
                          have hnc94 := NB164_188.out
                          have hnb95 := NB188_176.out
                          have hnc95 := NB176_188.out
                          have hnb96 := NB188_182.out
                          have hnc96 := NB182_188.out
                          have hcz97_0 : wc.cell? ⟨gb188, 0, none⟩ = some (.slice Ao30 t183.length co30) := (blk_cell BK188.out 0).trans rfl
                          have hcz97_1 : wc.cell? ⟨gb188, 1, none⟩ = some (.int .i64 t186) := (blk_cell BK188.out 1).trans rfl
                          have hfz97_0 := blk_frozen BK188.out 0
                          have hfz97_1 := blk_frozen BK188.out 1
                          go_upto_if 69 with (first | ((with_reducible refine gate_callee (f := 22) rfl ?_); refine goesL_ (some 64) rfl rfl Try.func22 (by kernel_rfl) rfl #[.agg #[.slice Ao30 t183.length co30, .int .i64 t186], .int .i64 1] rfl (by (try simp only [List.map_toArray, List.map_cons, List.map_nil]); first | done | rfl | (simp only [List.length_drop, List.length_take]; rfl)) ?_; (with_reducible refine (laws_markCamp.calls kj88 (fun k_ => some k_ = (.slice Ao30 t183.length co30 : Value).ownBlock) (.slice Ao30 t183.length co30) t183 t186 1 t199 t200 w _ ?side1 ?side2 A91.out).mono ?_); (case side1 => repeat (first | (with_reducible first | exact HB.out | apply below_alloc | apply pw_below_drewN | apply below_drew1 | refine below_set ?_ GE164.out | refine below_set ?_ GE176.out | refine below_set ?_ GE182.out | refine below_set ?_ GE188.out) | exact HB.out)); (case side2 => exact Kd.R_tight rfl HO_189000.out); rintro e w98 ⟨rfl, hy0, hb, hkp⟩; refine ⟨_, rfl, ?_⟩; have n0_ := Aside0.mk (Kd.R_mono (ok' := fun k_ => some k_ ≠ (.slice Ao30 t183.length co30 : Value).ownBlock ∧ ¬ D216_ k_ ∧ D217_ k_ ∧ D218_ k_) (Kd.R_keptB (HO_177000.out) hkp (fun k_ hk_ hs_ => (hk_.1) hs_)) (fun k_ hk_ => ⟨hk_.1.1, hk_.1.2.1, hk_.1.2.2.1, hk_.1.2.2.2⟩)); have n1_ := Aside0.mk (Kd.R_mono (ok' := fun k_ => ¬ D217_ k_ ∧ D218_ k_) (Kd.R_keptB ((Kd.R_apart' HO_183000.out (Kd.R_typed HO_189000.out) (by decide))) hkp (fun k_ hk_ hs_ => (hk_.2) hs_)) (fun k_ hk_ => ⟨hk_.1.1.1, hk_.1.1.2⟩)); have n2_ := Aside0.mk (Kd.R_reok rfl hy0 (fun k_ e_ => HO_189000.out.1 k_ e_)); have n3_ := Aside0.mk (blk_kept (by (with_reducible repeat (first | refine blk_drewN ?_ _ | refine blk_drew ?_ | refine blk_alloc ?_ _)); exact BK164.out) hkp (fun hs_ => (fun e_ => (Kd.R_ne HO_189000.out BK164.out (by decide)) e_) hs_)); have n4_ := Aside0.mk (blk_kept (by (with_reducible repeat (first | refine blk_drewN ?_ _ | refine blk_drew ?_ | refine blk_alloc ?_ _)); exact BK176.out) hkp (fun hs_ => (fun e_ => (Kd.R_ne HO_189000.out BK176.out (by decide)) e_) hs_)); have n5_ := Aside0.mk (blk_kept (by (with_reducible repeat (first | refine blk_drewN ?_ _ | refine blk_drew ?_ | refine blk_alloc ?_ _)); exact BK182.out) hkp (fun hs_ => (fun e_ => (Kd.R_ne HO_189000.out BK182.out (by decide)) e_) hs_)); have n6_ := Aside0.mk (blk_kept (by (with_reducible repeat (first | refine blk_drewN ?_ _ | refine blk_drew ?_ | refine blk_alloc ?_ _)); exact BK188.out) hkp (fun hs_ => (fun e_ => (Kd.R_ne HO_189000.out BK188.out (by decide)) e_) hs_)); have n7_ := Aside0.mk (hb); clear HO_177000; clear HO_183000; clear HO_189000; clear BK164; clear BK176; clear BK182; clear BK188; clear HB; have HO_177000 := n0_; have HO_183000 := n1_; have HO_189000 := n2_; have BK164 := n3_; have BK176 := n4_; have BK182 := n5_; have BK188 := n6_; have HB := n7_; clear n0_ n1_ n2_ n3_ n4_ n5_ n6_ n7_; (try clear hb); (try clear hkp); (try clear hy0); have hcz99_0 : w98.cell? ⟨gb188, 0, none⟩ = some (.slice Ao30 t183.length co30) := (blk_cell BK188.out 0).trans rfl; have hcz99_1 : w98.cell? ⟨gb188, 1, none⟩ = some (.int .i64 t186) := (blk_cell BK188.out 1).trans rfl; have hfz99_0 := blk_frozen BK188.out 0; have hfz99_1 := blk_frozen BK188.out 1) | ((with_reducible refine gate_callee (f := 23) rfl ?_); refine goesL_ (some 67) rfl rfl Try.func23 (by kernel_rfl) rfl #[.agg #[.slice Ao30 t200.length co30, .int .i64 t186], .int .i64 1] rfl (by (try simp only [List.map_toArray, List.map_cons, List.map_nil]); first | done | (rw [show t200.length = t183.length from (Kd.R_reads' HO_189000.out).1.symm] <;> rfl) | rfl | (simp only [List.length_drop, List.length_take]; rfl)) ?_; (with_reducible refine (laws_heldCamp.calls kj88 _ _ t200 t186 1 t201 _ ?side1 ?side2 A92.out).mono ?_); (case side1 => repeat (first | exact (Kd.R_reads' HO_189000.out).2.2 | (with_reducible refine Kd.C_alloc ?_ _) | (with_reducible refine Kd.C_drewN ?_ _) | (with_reducible refine Kd.C_drew ?_))); (case side2 => rw [show t200.length = t183.length from (Kd.R_reads' HO_189000.out).1.symm]; exact (Kd.R_reads' HO_189000.out).2.1); rintro e w100 ⟨rfl, hb⟩; refine ⟨_, rfl, ?_⟩; have n0_ := Aside0.mk (Kd.R_below (by (with_reducible repeat (first | apply Kd.R_alloc | apply Kd.R_drewN | apply Kd.R_drew)); exact HO_177000.out) hb); have n1_ := Aside0.mk (Kd.R_below (by (with_reducible repeat (first | apply Kd.R_alloc | apply Kd.R_drewN | apply Kd.R_drew)); exact HO_183000.out) hb); have n2_ := Aside0.mk (Kd.R_below (by (with_reducible repeat (first | apply Kd.R_alloc | apply Kd.R_drewN | apply Kd.R_drew)); exact HO_189000.out) hb); have n3_ := Aside0.mk (blk_below (g := gb164) (o := .cells #[.slice A0_0 l0_0.length c0_0, .int .i64 a0_1, .int .i64 a0_2] 24 (0, 0)) (by (with_reducible repeat (first | refine blk_drewN ?_ _ | refine blk_drew ?_ | refine blk_alloc ?_ _)); exact BK164.out) hb); have n4_ := Aside0.mk (blk_below (g := gb176) (o := .cells #[.slice Ao18 t171.length co18, .int .i64 t174] 28 (0, 0)) (by (with_reducible repeat (first | refine blk_drewN ?_ _ | refine blk_drew ?_ | refine blk_alloc ?_ _)); exact BK176.out) hb); have n5_ := Aside0.mk (blk_below (g := gb182) (o := .cells #[.slice Ao24 t197.length co24, .int .i64 t180, .int .i64 t181] 31 (0, 0)) (by (with_reducible repeat (first | refine blk_drewN ?_ _ | refine blk_drew ?_ | refine blk_alloc ?_ _)); exact BK182.out) hb); have n6_ := Aside0.mk (blk_below (g := gb188) (o := .cells #[.slice Ao30 t183.length co30, .int .i64 t186] 28 (0, 0)) (by (with_reducible repeat (first | refine blk_drewN ?_ _ | refine blk_drew ?_ | refine blk_alloc ?_ _)); exact BK188.out) hb); have n7_ := Aside0.mk (below_step (by repeat (first | (with_reducible first | exact HB.out | apply below_alloc | apply pw_below_drewN | apply below_drew1 | refine below_set ?_ GE164.out | refine below_set ?_ GE176.out | refine below_set ?_ GE182.out | refine below_set ?_ GE188.out) | exact HB.out)) hb); clear HO_177000; clear HO_183000; clear HO_189000; clear BK164; clear BK176; clear BK182; clear BK188; clear HB; have HO_177000 := n0_; have HO_183000 := n1_; have HO_189000 := n2_; have BK164 := n3_; have BK176 := n4_; have BK182 := n5_; have BK188 := n6_; have HB := n7_; clear n0_ n1_ n2_ n3_ n4_ n5_ n6_ n7_; (try clear hb); (try clear hb2); (try clear hk); (try clear hi)))
                          (try simp only [Act.put, List.setIfInBounds_toArray, List.set_cons_zero, List.set_cons_succ])
                          go_cut [] (fun wc => ∃ (kq : Nat), Aside0 (laws_FnExactFirstCamp.j6 kq t175 t199 t201 l0_0 a0_1 a0_2 t171 t174 t200 t186 = some r) ∧ Aside0 (kq ≤ kj88) ∧ Aside0 (Kd.R Kd.bool 4 wc w.heap.size (fun k_ => some k_ ≠ ((.slice Ao30 t183.length co30) : Value).ownBlock ∧ ¬ D216_ k_ ∧ D217_ k_ ∧ D218_ k_) (.slice Ao18 t171.length co18) t171) ∧ Aside0 (Kd.R (Kd.int .i64) 3 wc w.heap.size (fun k_ => ¬ D217_ k_ ∧ D218_ k_) (.slice Ao24 t197.length co24) t197) ∧ Aside0 (Kd.R Kd.bool 4 wc w.heap.size (fun k_ => some k_ ≠ ((.slice Ao18 t171.length co18) : Value).ownBlock ∧ ¬ D218_ k_) (.slice Ao30 t183.length co30) t200) ∧ Aside0 (wc.heap[gb164]? = some (.cells #[(.slice A0_0 l0_0.length c0_0), .int .i64 a0_1, .int .i64 a0_2] 24 (0, 0))) ∧ Aside0 (wc.heap[gb176]? = some (.cells #[(.slice Ao18 t171.length co18), .int .i64 t174] 28 (0, 0))) ∧ Aside0 (wc.heap[gb182]? = some (.cells #[(.slice Ao24 t197.length co24), .int .i64 t180, .int .i64 t181] 31 (0, 0))) ∧ Aside0 (wc.heap[gb188]? = some (.cells #[(.slice Ao30 t183.length co30), .int .i64 t186] 28 (0, 0))) ∧ Aside0 (Below w.heap.size w wc))
                          case first =>
                            have H := HC93.out
                            clear HC93
                            by_cases c101 : t201 < 0
                            · rw [if_pos c101] at H
                              have c101b0 : decide (t201 < 0) = true := decide_eq_true c101
                              clear c101
                              (first | rw [c101b0] | (simp only [i64_w, i32_w]; rw [c101b0]) | skip)
                              obtain rfl := Option.some.inj H
                              go_wp2
                              go_ret
                              exact ⟨by first | rfl | (simp [errW_none, errW_some] <;> rfl) | (simp [*, errW_none, errW_some] <;> rfl), by repeat (first | (with_reducible first | exact HB.out | apply below_alloc | apply pw_below_drewN | apply below_drew1 | refine below_set ?_ GE164.out | refine below_set ?_ GE176.out | refine below_set ?_ GE182.out | refine below_set ?_ GE188.out) | exact HB.out)⟩
                            · rw [if_neg c101] at H
                              have c101b0 : decide (t201 < 0) = false := decide_eq_false c101
                              clear c101
                              (first | rw [c101b0] | (simp only [i64_w, i32_w]; rw [c101b0]) | skip)
                              have H' := Aside0.mk H
                              clear H
                              go_wp2
                              go_meet
                              case rel => exact ⟨_, H', ⟨by have := HJ2.out; have := HJ11.out; have := HJ52.out; have := HJ56.out; have := HJ63.out; have := HJ88.out; first | omega | exact Nat.le_refl _⟩, ⟨by (try simp only [hl183000_63]); (with_reducible repeat (first | apply Kd.R_alloc | apply Kd.R_drewN | apply Kd.R_drew)); exact HO_177000.out⟩, ⟨by (try simp only [hl183000_63]); (with_reducible repeat (first | apply Kd.R_alloc | apply Kd.R_drewN | apply Kd.R_drew)); exact HO_183000.out⟩, ⟨by (try simp only [hl183000_63]); (with_reducible repeat (first | apply Kd.R_alloc | apply Kd.R_drewN | apply Kd.R_drew)); exact HO_189000.out⟩, ⟨by (try simp only [hl183000_63]); (with_reducible repeat (first | refine blk_drewN ?_ _ | refine blk_drew ?_ | refine blk_alloc ?_ _)); exact BK164.out⟩, ⟨by (try simp only [hl183000_63]); (with_reducible repeat (first | refine blk_drewN ?_ _ | refine blk_drew ?_ | refine blk_alloc ?_ _)); exact BK176.out⟩, ⟨by (try simp only [hl183000_63]); (with_reducible repeat (first | refine blk_drewN ?_ _ | refine blk_drew ?_ | refine blk_alloc ?_ _)); exact BK182.out⟩, ⟨by (try simp only [hl183000_63]); (with_reducible repeat (first | refine blk_drewN ?_ _ | refine blk_drew ?_ | refine blk_alloc ?_ _)); exact BK188.out⟩, ⟨by repeat (first | (with_reducible first | exact HB.out | apply below_alloc | apply pw_below_drewN | apply below_drew1 | refine below_set ?_ GE164.out | refine below_set ?_ GE176.out | refine below_set ?_ GE182.out | refine below_set ?_ GE188.out) | exact HB.out)⟩⟩
                          case rest =>
                            clear HC93
                            try clear c1
                            try clear c2
                            try clear p2
                            try clear c3
                            try clear c4
                            try clear c5
                            try clear c6
                            try clear c7
                            try clear c7b0
                            try clear c8
                            try clear c9
                            try clear c10
                            try clear c15
                            try clear c16
                            try clear c17
                            try clear c18
                            try clear c19
                            try clear c20
                            try clear c21
                            try clear c22
                            try clear c23
                            try clear c25
                            try clear c26
                            try clear c31
                            try clear c32
                            try clear c33
                            try clear c36
                            try clear c37
                            try clear c38
                            try clear c39
                            try clear c41
                            try clear c42
                            try clear c45
                            try clear c46
                            try clear c47
                            try clear c49
                            try clear c50
                            try clear c54
                            try clear c62
                            try clear c65
                            try clear c66
                            try clear c67
                            try clear c70
                            try clear c70b0
                            try clear c72
                            try clear c73
                            try clear c74
                            try clear c75
                            try clear c77
                            try clear c78
                            try clear c81
                            try clear c82
                            try clear c83
                            try clear c85
                            try clear c86
                            try clear c90
                            try clear c94
                            try clear c95
                            try clear c96
                            try clear c101
                            try clear c101b0
                            try clear hcz13_0
                            try clear hcz13_1
                            try clear hcz13_2
                            try clear hcz20_0
                            try clear hcz20_1
                            try clear hcz21_0
                            try clear hcz21_1
                            try clear hcz21_2
                            try clear hcz27_0
                            try clear hcz27_1
                            try clear hcz27_2
                            try clear hcz34_0
                            try clear hcz34_1
                            try clear hcz40_0
                            try clear hcz40_1
                            try clear hcz43_0
                            try clear hcz43_1
                            try clear hcz48_0
                            try clear hcz48_1
                            try clear hcz51_0
                            try clear hcz51_1
                            try clear hcz5_0
                            try clear hcz5_1
                            try clear hcz5_2
                            try clear hcz68_0
                            try clear hcz68_1
                            try clear hcz68_2
                            try clear hcz76_0
                            try clear hcz76_1
                            try clear hcz79_0
                            try clear hcz79_1
                            try clear hcz84_0
                            try clear hcz84_1
                            try clear hcz87_0
                            try clear hcz87_1
                            try clear hcz97_0
                            try clear hcz97_1
                            try clear hcz99_0
                            try clear hcz99_1
                            try clear hfz13_0
                            try clear hfz13_1
                            try clear hfz13_2
                            try clear hfz20_0
                            try clear hfz20_1
                            try clear hfz21_0
                            try clear hfz21_1
                            try clear hfz21_2
                            try clear hfz27_0
                            try clear hfz27_1
                            try clear hfz27_2
                            try clear hfz34_0
                            try clear hfz34_1
                            try clear hfz40_0
                            try clear hfz40_1
                            try clear hfz43_0
                            try clear hfz43_1
                            try clear hfz48_0
                            try clear hfz48_1
                            try clear hfz51_0
                            try clear hfz51_1
                            try clear hfz5_0
                            try clear hfz5_1
                            try clear hfz5_2
                            try clear hfz68_0
                            try clear hfz68_1
                            try clear hfz68_2
                            try clear hfz76_0
                            try clear hfz76_1
                            try clear hfz79_0
                            try clear hfz79_1
                            try clear hfz84_0
                            try clear hfz84_1
                            try clear hfz87_0
                            try clear hfz87_1
                            try clear hfz97_0
                            try clear hfz97_1
                            try clear hfz99_0
                            try clear hfz99_1
                            try clear p2
                            obtain ⟨kq, HA, HJ92, HO_177000, HO_183000, HO_189000, BK164, BK176, BK182, BK188, HB⟩ := hcut
                            have hl189000_92 := (Kd.R_reads' HO_189000.out).1
                            rw [hl189000_92] at HO_189000
                            (try simp only [hl189000_92])
                            (try simp only [hl189000_92] at BK164)
                            (try simp only [hl189000_92] at BK176)
                            (try simp only [hl189000_92] at BK182)
                            (try simp only [hl189000_92] at BK188)
                            (try simp only [hl189000_92] at HO_177000)
                            (try simp only [hl189000_92] at HO_183000)
                            cases kq with
                            | zero => exact absurd HA.out (by simp [laws_FnExactFirstCamp.j6])
                            | succ kj92 =>
                              have H := HA.out
                              clear HA
                              simp only [laws_FnExactFirstCamp.j6] at H
                              have HC102 := Aside0.mk H
                              clear H
                              go_upto_if 72 with (fail)
                              go_cut [] (fun wc => ∃ (kq : Nat), Aside0 (laws_FnExactFirstCamp.j7 kq t175 t199 l0_0 a0_1 a0_2 t171 t174 t200 t186 = some r) ∧ Aside0 (kq ≤ kj92) ∧ Aside0 (Kd.R Kd.bool 4 wc w.heap.size (fun k_ => some k_ ≠ ((.slice Ao30 t200.length co30) : Value).ownBlock ∧ ¬ D216_ k_ ∧ D217_ k_ ∧ D218_ k_) (.slice Ao18 t171.length co18) t171) ∧ Aside0 (Kd.R (Kd.int .i64) 3 wc w.heap.size (fun k_ => ¬ D217_ k_ ∧ D218_ k_) (.slice Ao24 t197.length co24) t197) ∧ Aside0 (Kd.R Kd.bool 4 wc w.heap.size (fun k_ => some k_ ≠ ((.slice Ao18 t171.length co18) : Value).ownBlock ∧ ¬ D218_ k_) (.slice Ao30 t200.length co30) t200) ∧ Aside0 (wc.heap[gb164]? = some (.cells #[(.slice A0_0 l0_0.length c0_0), .int .i64 a0_1, .int .i64 a0_2] 24 (0, 0))) ∧ Aside0 (wc.heap[gb176]? = some (.cells #[(.slice Ao18 t171.length co18), .int .i64 t174] 28 (0, 0))) ∧ Aside0 (wc.heap[gb182]? = some (.cells #[(.slice Ao24 t197.length co24), .int .i64 t180, .int .i64 t181] 31 (0, 0))) ∧ Aside0 (wc.heap[gb188]? = some (.cells #[(.slice Ao30 t200.length co30), .int .i64 t186] 28 (0, 0))) ∧ Aside0 (Below w.heap.size w wc))
                              case first =>
                                have H := HC102.out
                                clear HC102
                                by_cases c103 : t201 = t199
                                · rw [if_pos c103] at H
                                  have c103b0 : (t201 == t199) = true := beq_iff_eq.mpr c103
                                  have c103b1 : (t201 != t199) = false := bne_eq_false_iff_eq.mpr c103
                                  clear c103
                                  (first | rw [c103b0] | (simp only [i64_w, i32_w]; rw [c103b0]) | skip)
                                  have H' := Aside0.mk H
                                  clear H
                                  go_wp2
                                  go_meet
                                  case rel => exact ⟨_, H', ⟨by have := HJ2.out; have := HJ11.out; have := HJ52.out; have := HJ56.out; have := HJ63.out; have := HJ88.out; have := HJ92.out; first | omega | exact Nat.le_refl _⟩, ⟨by (try simp only [hl183000_63]); (try simp only [hl189000_92]); (with_reducible repeat (first | apply Kd.R_alloc | apply Kd.R_drewN | apply Kd.R_drew)); exact HO_177000.out⟩, ⟨by (try simp only [hl183000_63]); (try simp only [hl189000_92]); (with_reducible repeat (first | apply Kd.R_alloc | apply Kd.R_drewN | apply Kd.R_drew)); exact HO_183000.out⟩, ⟨by (try simp only [hl183000_63]); (try simp only [hl189000_92]); (with_reducible repeat (first | apply Kd.R_alloc | apply Kd.R_drewN | apply Kd.R_drew)); exact HO_189000.out⟩, ⟨by (try simp only [hl183000_63]); (try simp only [hl189000_92]); (with_reducible repeat (first | refine blk_drewN ?_ _ | refine blk_drew ?_ | refine blk_alloc ?_ _)); exact BK164.out⟩, ⟨by (try simp only [hl183000_63]); (try simp only [hl189000_92]); (with_reducible repeat (first | refine blk_drewN ?_ _ | refine blk_drew ?_ | refine blk_alloc ?_ _)); exact BK176.out⟩, ⟨by (try simp only [hl183000_63]); (try simp only [hl189000_92]); (with_reducible repeat (first | refine blk_drewN ?_ _ | refine blk_drew ?_ | refine blk_alloc ?_ _)); exact BK182.out⟩, ⟨by (try simp only [hl183000_63]); (try simp only [hl189000_92]); (with_reducible repeat (first | refine blk_drewN ?_ _ | refine blk_drew ?_ | refine blk_alloc ?_ _)); exact BK188.out⟩, ⟨by repeat (first | (with_reducible first | exact HB.out | apply below_alloc | apply pw_below_drewN | apply below_drew1 | refine below_set ?_ GE164.out | refine below_set ?_ GE176.out | refine below_set ?_ GE182.out | refine below_set ?_ GE188.out) | exact HB.out)⟩⟩
                                · rw [if_neg c103] at H
                                  have c103b0 : (t201 == t199) = false := beq_eq_false_iff_ne.mpr c103
                                  have c103b1 : (t201 != t199) = true := bne_iff_ne.mpr c103
                                  (first | rw [c103b0] | (simp only [i64_w, i32_w]; rw [c103b0]) | skip)
                                  obtain rfl := Option.some.inj H
                                  go_wp2
                                  go_ret
                                  exact ⟨by first | rfl | (simp [errW_none, errW_some] <;> rfl) | (simp [*, errW_none, errW_some] <;> rfl), by repeat (first | (with_reducible first | exact HB.out | apply below_alloc | apply pw_below_drewN | apply below_drew1 | refine below_set ?_ GE164.out | refine below_set ?_ GE176.out | refine below_set ?_ GE182.out | refine below_set ?_ GE188.out) | exact HB.out)⟩
                              case rest =>
                                clear HC102
                                try clear c1
                                try clear c2
                                try clear p2
                                try clear c3
                                try clear c4
                                try clear c5
                                try clear c6
                                try clear c7
                                try clear c7b0
                                try clear c8
                                try clear c9
                                try clear c10
                                try clear c15
                                try clear c16
                                try clear c17
                                try clear c18
                                try clear c19
                                try clear c20
                                try clear c21
                                try clear c22
                                try clear c23
                                try clear c25
                                try clear c26
                                try clear c31
                                try clear c32
                                try clear c33
                                try clear c36
                                try clear c37
                                try clear c38
                                try clear c39
                                try clear c41
                                try clear c42
                                try clear c45
                                try clear c46
                                try clear c47
                                try clear c49
                                try clear c50
                                try clear c54
                                try clear c62
                                try clear c65
                                try clear c66
                                try clear c67
                                try clear c70
                                try clear c70b0
                                try clear c72
                                try clear c73
                                try clear c74
                                try clear c75
                                try clear c77
                                try clear c78
                                try clear c81
                                try clear c82
                                try clear c83
                                try clear c85
                                try clear c86
                                try clear c90
                                try clear c94
                                try clear c95
                                try clear c96
                                try clear c101
                                try clear c101b0
                                try clear c103
                                try clear c103b0
                                try clear c103b1
                                try clear hcz13_0
                                try clear hcz13_1
                                try clear hcz13_2
                                try clear hcz20_0
                                try clear hcz20_1
                                try clear hcz21_0
                                try clear hcz21_1
                                try clear hcz21_2
                                try clear hcz27_0
                                try clear hcz27_1
                                try clear hcz27_2
                                try clear hcz34_0
                                try clear hcz34_1
                                try clear hcz40_0
                                try clear hcz40_1
                                try clear hcz43_0
                                try clear hcz43_1
                                try clear hcz48_0
                                try clear hcz48_1
                                try clear hcz51_0
                                try clear hcz51_1
                                try clear hcz5_0
                                try clear hcz5_1
                                try clear hcz5_2
                                try clear hcz68_0
                                try clear hcz68_1
                                try clear hcz68_2
                                try clear hcz76_0
                                try clear hcz76_1
                                try clear hcz79_0
                                try clear hcz79_1
                                try clear hcz84_0
                                try clear hcz84_1
                                try clear hcz87_0
                                try clear hcz87_1
                                try clear hcz97_0
                                try clear hcz97_1
                                try clear hcz99_0
                                try clear hcz99_1
                                try clear hfz13_0
                                try clear hfz13_1
                                try clear hfz13_2
                                try clear hfz20_0
                                try clear hfz20_1
                                try clear hfz21_0
                                try clear hfz21_1
                                try clear hfz21_2
                                try clear hfz27_0
                                try clear hfz27_1
                                try clear hfz27_2
                                try clear hfz34_0
                                try clear hfz34_1
                                try clear hfz40_0
                                try clear hfz40_1
                                try clear hfz43_0
                                try clear hfz43_1
                                try clear hfz48_0
                                try clear hfz48_1
                                try clear hfz51_0
                                try clear hfz51_1
                                try clear hfz5_0
                                try clear hfz5_1
                                try clear hfz5_2
                                try clear hfz68_0
                                try clear hfz68_1
                                try clear hfz68_2
                                try clear hfz76_0
                                try clear hfz76_1
                                try clear hfz79_0
                                try clear hfz79_1
                                try clear hfz84_0
                                try clear hfz84_1
                                try clear hfz87_0
                                try clear hfz87_1
                                try clear hfz97_0
                                try clear hfz97_1
                                try clear hfz99_0
                                try clear hfz99_1
                                try clear p2
                                obtain ⟨kq, HA, HJ101, HO_177000, HO_183000, HO_189000, BK164, BK176, BK182, BK188, HB⟩ := hcut
                                cases kq with
                                | zero => exact absurd HA.out (by simp [laws_FnExactFirstCamp.j7])
                                | succ kj101 =>
                                  have H := HA.out
                                  clear HA
                                  simp only [laws_FnExactFirstCamp.j7] at H
                                  replace H := Option.bind_eq_some_iff.mp H
                                  obtain ⟨⟨t202, t205, t206⟩, A1040, H⟩ := H
                                  replace H : ((impl_FirstCamp.f t202 t205 t206).bind fun bt207 => ((laws_eqCamp.f kj101 bt207.1 bt207.2.1 t171 t174).bind fun t213 => (if t213 = true then (laws_FnExactFirstCamp.j8 kj101 t199 (bt207.2.2 != t175) t200 t186) else (laws_FnExactFirstCamp.j8 kj101 t199 true t200 t186)))) = some r := H
                                  have A104 := Aside0.mk A1040
                                  clear A1040
                                  replace H := Option.bind_eq_some_iff.mp H
                                  obtain ⟨⟨t207, t210, t211⟩, A1050, H⟩ := H
                                  replace H : ((laws_eqCamp.f kj101 t207 t210 t171 t174).bind fun t213 => (if t213 = true then (laws_FnExactFirstCamp.j8 kj101 t199 (t211 != t175) t200 t186) else (laws_FnExactFirstCamp.j8 kj101 t199 true t200 t186))) = some r := H
                                  have A105 := Aside0.mk A1050
                                  clear A1050
                                  have HC106 := Aside0.mk H
                                  clear H
                                  have hnb107 := NB164_176.out
                                  have hnc107 := NB176_164.out
                                  have hnb108 := NB164_182.out
                                  have hnc108 := NB182_164.out
                                  have hnb109 := NB164_188.out
                                  have hnc109 := NB188_164.out
                                  have hcz110_0 : wc.cell? ⟨gb164, 0, none⟩ = some (.slice A0_0 l0_0.length c0_0) := (blk_cell BK164.out 0).trans rfl
                                  have hcz110_1 : wc.cell? ⟨gb164, 1, none⟩ = some (.int .i64 a0_1) := (blk_cell BK164.out 1).trans rfl
                                  have hcz110_2 : wc.cell? ⟨gb164, 2, none⟩ = some (.int .i64 a0_2) := (blk_cell BK164.out 2).trans rfl
                                  have hfz110_0 := blk_frozen BK164.out 0
                                  have hfz110_1 := blk_frozen BK164.out 1
                                  have hfz110_2 := blk_frozen BK164.out 2
                                  go_upto_region 25 with (first | ((with_reducible refine gate_callee (f := 17) rfl ?_); refine goesL_ (some 75) rfl rfl Try.func17 (by kernel_rfl) rfl #[.agg #[.slice A0_0 l0_0.length c0_0, .int .i64 a0_1, .int .i64 a0_2]] rfl (by (try simp only [List.map_toArray, List.map_cons, List.map_nil]); first | done | rfl | (simp only [List.length_drop, List.length_take]; rfl)) ?_; (with_reducible refine (laws_toNight.calls kj101 _ _ l0_0 a0_1 a0_2 t202 t205 t206 _ ?side1 ?side2 A104.out).mono ?_); (case side1 => repeat (first | exact (Kd.C_below HR0_0.out HB.out) | (with_reducible refine Kd.C_alloc ?_ _) | (with_reducible refine Kd.C_drewN ?_ _) | (with_reducible refine Kd.C_drew ?_))); (case side2 => exact HC0_0.out); rintro e w111 ⟨v203, rfl, ho0, hb⟩; refine ⟨_, rfl, ?_⟩; obtain ⟨D219_, hdl_, hdg_⟩ := dlt_of hb; have D219_lt := Aside0.mk hdl_; have D219_ge := Aside0.mk hdg_; clear hdl_ hdg_; have n0_ := Aside0.mk (Kd.R_below (Kd.R_dlt (by (with_reducible repeat (first | apply Kd.R_alloc | apply Kd.R_drewN | apply Kd.R_drew)); exact HO_177000.out) D219_lt.out) hb); have n1_ := Aside0.mk (Kd.R_elder' (Kd.R_dlt (by (with_reducible repeat (first | apply Kd.R_alloc | apply Kd.R_drewN | apply Kd.R_drew)); exact HO_183000.out) D219_lt.out) (Kd.R_base ho0) hb); have n2_ := Aside0.mk (Kd.R_below (Kd.R_dlt (by (with_reducible repeat (first | apply Kd.R_alloc | apply Kd.R_drewN | apply Kd.R_drew)); exact HO_189000.out) D219_lt.out) hb); have n3_ := Aside0.mk (Kd.R_lower (Kd.R_new' (Kd.R_dge ho0 D219_ge.out) (Kd.R_lt (by (with_reducible repeat (first | apply Kd.R_alloc | apply Kd.R_drewN | apply Kd.R_drew)); exact HO_183000.out))) (below_size (by repeat (first | (with_reducible first | exact HB.out | apply below_alloc | apply pw_below_drewN | apply below_drew1 | refine below_set ?_ GE164.out | refine below_set ?_ GE176.out | refine below_set ?_ GE182.out | refine below_set ?_ GE188.out) | exact HB.out)))); have n4_ := Aside0.mk (blk_below (g := gb164) (o := .cells #[.slice A0_0 l0_0.length c0_0, .int .i64 a0_1, .int .i64 a0_2] 24 (0, 0)) (by (with_reducible repeat (first | refine blk_drewN ?_ _ | refine blk_drew ?_ | refine blk_alloc ?_ _)); exact BK164.out) hb); have n5_ := Aside0.mk (blk_below (g := gb176) (o := .cells #[.slice Ao18 t171.length co18, .int .i64 t174] 28 (0, 0)) (by (with_reducible repeat (first | refine blk_drewN ?_ _ | refine blk_drew ?_ | refine blk_alloc ?_ _)); exact BK176.out) hb); have n6_ := Aside0.mk (blk_below (g := gb182) (o := .cells #[.slice Ao24 t197.length co24, .int .i64 t180, .int .i64 t181] 31 (0, 0)) (by (with_reducible repeat (first | refine blk_drewN ?_ _ | refine blk_drew ?_ | refine blk_alloc ?_ _)); exact BK182.out) hb); have n7_ := Aside0.mk (blk_below (g := gb188) (o := .cells #[.slice Ao30 t200.length co30, .int .i64 t186] 28 (0, 0)) (by (with_reducible repeat (first | refine blk_drewN ?_ _ | refine blk_drew ?_ | refine blk_alloc ?_ _)); exact BK188.out) hb); have n8_ := Aside0.mk (below_step (by repeat (first | (with_reducible first | exact HB.out | apply below_alloc | apply pw_below_drewN | apply below_drew1 | refine below_set ?_ GE164.out | refine below_set ?_ GE176.out | refine below_set ?_ GE182.out | refine below_set ?_ GE188.out) | exact HB.out)) hb); clear HO_177000; clear HO_183000; clear HO_189000; clear BK164; clear BK176; clear BK182; clear BK188; clear HB; have HO_177000 := n0_; have HO_183000 := n1_; have HO_189000 := n2_; have HO204 := n3_; have BK164 := n4_; have BK176 := n5_; have BK182 := n6_; have BK188 := n7_; have HB := n8_; clear n0_ n1_ n2_ n3_ n4_ n5_ n6_ n7_ n8_; (try clear hb); (try clear hb2); (try clear hk); (try clear hi); (try clear ho0); obtain ⟨Ao112, co112, eo112⟩ := Kd.R_slice HO204.out; subst eo112) | ((with_reducible refine gate_callee (f := 18) rfl ?_); refine goesL_ (some 76) rfl rfl Try.func18 (by kernel_rfl) rfl #[.agg #[.slice Ao112 t202.length co112, .int .i64 t205, .int .i64 t206]] rfl (by (try simp only [List.map_toArray, List.map_cons, List.map_nil]); first | done | rfl | (simp only [List.length_drop, List.length_take]; rfl)) ?_; (with_reducible refine (impl_FirstCamp.calls _ _ t202 t205 t206 t207 t210 t211 _ ?side1 ?side2 A105.out).mono ?_); (case side1 => repeat (first | exact (Kd.R_reads' HO204.out).2.2 | (with_reducible refine Kd.C_alloc ?_ _) | (with_reducible refine Kd.C_drewN ?_ _) | (with_reducible refine Kd.C_drew ?_))); (case side2 => exact (Kd.R_reads' HO204.out).2.1); rintro e w113 ⟨v208, rfl, ho0, hb⟩; refine ⟨_, rfl, ?_⟩; obtain ⟨D220_, hdl_, hdg_⟩ := dlt_of hb; have D220_lt := Aside0.mk hdl_; have D220_ge := Aside0.mk hdg_; clear hdl_ hdg_; have n0_ := Aside0.mk (Kd.R_elder' (Kd.R_dlt (by (with_reducible repeat (first | apply Kd.R_alloc | apply Kd.R_drewN | apply Kd.R_drew)); exact HO_177000.out) D220_lt.out) (Kd.R_base ho0) hb); have n1_ := Aside0.mk (Kd.R_below (Kd.R_dlt (by (with_reducible repeat (first | apply Kd.R_alloc | apply Kd.R_drewN | apply Kd.R_drew)); exact HO_183000.out) D220_lt.out) hb); have n2_ := Aside0.mk (Kd.R_elder' (Kd.R_dlt (by (with_reducible repeat (first | apply Kd.R_alloc | apply Kd.R_drewN | apply Kd.R_drew)); exact HO_189000.out) D220_lt.out) (Kd.R_base ho0) hb); have n3_ := Aside0.mk (Kd.R_below (Kd.R_dlt (by (with_reducible repeat (first | apply Kd.R_alloc | apply Kd.R_drewN | apply Kd.R_drew)); exact HO204.out) D220_lt.out) hb); have n4_ := Aside0.mk (Kd.R_lower (Kd.R_new' (Kd.R_new' (Kd.R_dge ho0 D220_ge.out) (Kd.R_lt (by (with_reducible repeat (first | apply Kd.R_alloc | apply Kd.R_drewN | apply Kd.R_drew)); exact HO_177000.out))) (Kd.R_lt (by (with_reducible repeat (first | apply Kd.R_alloc | apply Kd.R_drewN | apply Kd.R_drew)); exact HO_189000.out))) (below_size (by repeat (first | (with_reducible first | exact HB.out | apply below_alloc | apply pw_below_drewN | apply below_drew1 | refine below_set ?_ GE164.out | refine below_set ?_ GE176.out | refine below_set ?_ GE182.out | refine below_set ?_ GE188.out) | exact HB.out)))); have n5_ := Aside0.mk (blk_below (g := gb164) (o := .cells #[.slice A0_0 l0_0.length c0_0, .int .i64 a0_1, .int .i64 a0_2] 24 (0, 0)) (by (with_reducible repeat (first | refine blk_drewN ?_ _ | refine blk_drew ?_ | refine blk_alloc ?_ _)); exact BK164.out) hb); have n6_ := Aside0.mk (blk_below (g := gb176) (o := .cells #[.slice Ao18 t171.length co18, .int .i64 t174] 28 (0, 0)) (by (with_reducible repeat (first | refine blk_drewN ?_ _ | refine blk_drew ?_ | refine blk_alloc ?_ _)); exact BK176.out) hb); have n7_ := Aside0.mk (blk_below (g := gb182) (o := .cells #[.slice Ao24 t197.length co24, .int .i64 t180, .int .i64 t181] 31 (0, 0)) (by (with_reducible repeat (first | refine blk_drewN ?_ _ | refine blk_drew ?_ | refine blk_alloc ?_ _)); exact BK182.out) hb); have n8_ := Aside0.mk (blk_below (g := gb188) (o := .cells #[.slice Ao30 t200.length co30, .int .i64 t186] 28 (0, 0)) (by (with_reducible repeat (first | refine blk_drewN ?_ _ | refine blk_drew ?_ | refine blk_alloc ?_ _)); exact BK188.out) hb); have n9_ := Aside0.mk (below_step (by repeat (first | (with_reducible first | exact HB.out | apply below_alloc | apply pw_below_drewN | apply below_drew1 | refine below_set ?_ GE164.out | refine below_set ?_ GE176.out | refine below_set ?_ GE182.out | refine below_set ?_ GE188.out) | exact HB.out)) hb); clear HO_177000; clear HO_183000; clear HO_189000; clear HO204; clear BK164; clear BK176; clear BK182; clear BK188; clear HB; have HO_177000 := n0_; have HO_183000 := n1_; have HO_189000 := n2_; have HO204 := n3_; have HO209 := n4_; have BK164 := n5_; have BK176 := n6_; have BK182 := n7_; have BK188 := n8_; have HB := n9_; clear n0_ n1_ n2_ n3_ n4_ n5_ n6_ n7_ n8_ n9_; (try clear hb); (try clear hb2); (try clear hk); (try clear hi); (try clear ho0)) | ((with_reducible refine gate_dst (N := 12) rfl ?_); refine box_event ?hg (N := 12) ?hd (cs := #[.slice none 0 0, .int .i64 0]) (t := 28) ?hr ?_; (case hd => rfl); (case hg => rfl); (case hr => first | (go_simp; done) | (go_simp; rfl)); intro gb212 hg w114 hbox hb; have n0_ := Aside0.mk (Kd.R_below (by (with_reducible repeat (first | apply Kd.R_alloc | apply Kd.R_drewN | apply Kd.R_drew)); exact HO_177000.out) hb); have n1_ := Aside0.mk (Kd.R_below (by (with_reducible repeat (first | apply Kd.R_alloc | apply Kd.R_drewN | apply Kd.R_drew)); exact HO_183000.out) hb); have n2_ := Aside0.mk (Kd.R_below (by (with_reducible repeat (first | apply Kd.R_alloc | apply Kd.R_drewN | apply Kd.R_drew)); exact HO_189000.out) hb); have n3_ := Aside0.mk (Kd.R_below (by (with_reducible repeat (first | apply Kd.R_alloc | apply Kd.R_drewN | apply Kd.R_drew)); exact HO204.out) hb); have n4_ := Aside0.mk (Kd.R_below (by (with_reducible repeat (first | apply Kd.R_alloc | apply Kd.R_drewN | apply Kd.R_drew)); exact HO209.out) hb); have n5_ := Aside0.mk (blk_below (g := gb164) (o := .cells #[.slice A0_0 l0_0.length c0_0, .int .i64 a0_1, .int .i64 a0_2] 24 (0, 0)) (by (with_reducible repeat (first | refine blk_drewN ?_ _ | refine blk_drew ?_ | refine blk_alloc ?_ _)); exact BK164.out) hb); have n6_ := Aside0.mk (blk_below (g := gb176) (o := .cells #[.slice Ao18 t171.length co18, .int .i64 t174] 28 (0, 0)) (by (with_reducible repeat (first | refine blk_drewN ?_ _ | refine blk_drew ?_ | refine blk_alloc ?_ _)); exact BK176.out) hb); have n7_ := Aside0.mk (blk_below (g := gb182) (o := .cells #[.slice Ao24 t197.length co24, .int .i64 t180, .int .i64 t181] 31 (0, 0)) (by (with_reducible repeat (first | refine blk_drewN ?_ _ | refine blk_drew ?_ | refine blk_alloc ?_ _)); exact BK182.out) hb); have n8_ := Aside0.mk (blk_below (g := gb188) (o := .cells #[.slice Ao30 t200.length co30, .int .i64 t186] 28 (0, 0)) (by (with_reducible repeat (first | refine blk_drewN ?_ _ | refine blk_drew ?_ | refine blk_alloc ?_ _)); exact BK188.out) hb); have n9_ := Aside0.mk (below_step (by repeat (first | (with_reducible first | exact HB.out | apply below_alloc | apply pw_below_drewN | apply below_drew1 | refine below_set ?_ GE164.out | refine below_set ?_ GE176.out | refine below_set ?_ GE182.out | refine below_set ?_ GE188.out) | exact HB.out)) hb); have n10_ := Aside0.mk (hbox); have n11_ := Aside0.mk ((by rw [hg]; exact (below_size (by repeat (first | (with_reducible first | exact HB.out | apply below_alloc | apply pw_below_drewN | apply below_drew1 | refine below_set ?_ GE164.out | refine below_set ?_ GE176.out | refine below_set ?_ GE182.out | refine below_set ?_ GE188.out) | exact HB.out))) : w.heap.size ≤ gb212)); have n12_ := Aside0.mk ((by rw [hg]; exact (below_size (by repeat (first | (with_reducible first | exact HB.out | apply below_alloc | apply pw_below_drewN | apply below_drew1 | refine below_set ?_ GE164.out | refine below_set ?_ GE176.out | refine below_set ?_ GE182.out | refine below_set ?_ GE188.out) | exact HB.out))) : w.heap.size ≤ gb212)); have n13_ := Aside0.mk ((by rw [hg]; exact Nat.ne_of_lt (blk_lt (g := gb164) (o := .cells #[.slice A0_0 l0_0.length c0_0, .int .i64 a0_1, .int .i64 a0_2] 24 (0, 0)) (by (with_reducible repeat (first | refine blk_drewN ?_ _ | refine blk_drew ?_ | refine blk_alloc ?_ _)); exact BK164.out)) : gb164 ≠ gb212)); have n14_ := Aside0.mk ((by rw [hg]; exact Nat.ne_of_gt (blk_lt (g := gb164) (o := .cells #[.slice A0_0 l0_0.length c0_0, .int .i64 a0_1, .int .i64 a0_2] 24 (0, 0)) (by (with_reducible repeat (first | refine blk_drewN ?_ _ | refine blk_drew ?_ | refine blk_alloc ?_ _)); exact BK164.out)) : gb212 ≠ gb164)); have n15_ := Aside0.mk ((by rw [hg]; exact Nat.ne_of_lt (blk_lt (g := gb176) (o := .cells #[.slice Ao18 t171.length co18, .int .i64 t174] 28 (0, 0)) (by (with_reducible repeat (first | refine blk_drewN ?_ _ | refine blk_drew ?_ | refine blk_alloc ?_ _)); exact BK176.out)) : gb176 ≠ gb212)); have n16_ := Aside0.mk ((by rw [hg]; exact Nat.ne_of_gt (blk_lt (g := gb176) (o := .cells #[.slice Ao18 t171.length co18, .int .i64 t174] 28 (0, 0)) (by (with_reducible repeat (first | refine blk_drewN ?_ _ | refine blk_drew ?_ | refine blk_alloc ?_ _)); exact BK176.out)) : gb212 ≠ gb176)); have n17_ := Aside0.mk ((by rw [hg]; exact Nat.ne_of_lt (blk_lt (g := gb182) (o := .cells #[.slice Ao24 t197.length co24, .int .i64 t180, .int .i64 t181] 31 (0, 0)) (by (with_reducible repeat (first | refine blk_drewN ?_ _ | refine blk_drew ?_ | refine blk_alloc ?_ _)); exact BK182.out)) : gb182 ≠ gb212)); have n18_ := Aside0.mk ((by rw [hg]; exact Nat.ne_of_gt (blk_lt (g := gb182) (o := .cells #[.slice Ao24 t197.length co24, .int .i64 t180, .int .i64 t181] 31 (0, 0)) (by (with_reducible repeat (first | refine blk_drewN ?_ _ | refine blk_drew ?_ | refine blk_alloc ?_ _)); exact BK182.out)) : gb212 ≠ gb182)); have n19_ := Aside0.mk ((by rw [hg]; exact Nat.ne_of_lt (blk_lt (g := gb188) (o := .cells #[.slice Ao30 t200.length co30, .int .i64 t186] 28 (0, 0)) (by (with_reducible repeat (first | refine blk_drewN ?_ _ | refine blk_drew ?_ | refine blk_alloc ?_ _)); exact BK188.out)) : gb188 ≠ gb212)); have n20_ := Aside0.mk ((by rw [hg]; exact Nat.ne_of_gt (blk_lt (g := gb188) (o := .cells #[.slice Ao30 t200.length co30, .int .i64 t186] 28 (0, 0)) (by (with_reducible repeat (first | refine blk_drewN ?_ _ | refine blk_drew ?_ | refine blk_alloc ?_ _)); exact BK188.out)) : gb212 ≠ gb188)); clear HO_177000; clear HO_183000; clear HO_189000; clear HO204; clear HO209; clear BK164; clear BK176; clear BK182; clear BK188; clear HB; have HO_177000 := n0_; have HO_183000 := n1_; have HO_189000 := n2_; have HO204 := n3_; have HO209 := n4_; have BK164 := n5_; have BK176 := n6_; have BK182 := n7_; have BK188 := n8_; have HB := n9_; have BK212 := n10_; have GW212 := n11_; have GE212 := n12_; have NB164_212 := n13_; have NB212_164 := n14_; have NB176_212 := n15_; have NB212_176 := n16_; have NB182_212 := n17_; have NB212_182 := n18_; have NB188_212 := n19_; have NB212_188 := n20_; clear n0_ n1_ n2_ n3_ n4_ n5_ n6_ n7_ n8_ n9_ n10_ n11_ n12_ n13_ n14_ n15_ n16_ n17_ n18_ n19_ n20_; clear hb hbox hg; obtain ⟨Ao115, co115, eo115⟩ := Kd.R_slice HO209.out; subst eo115; have hnb116 := NB212_164.out; have hnc116 := NB164_212.out; have hnb117 := NB212_176.out; have hnc117 := NB176_212.out; have hnb118 := NB212_182.out; have hnc118 := NB182_212.out; have hnb119 := NB212_188.out; have hnc119 := NB188_212.out; have hcz120_0 : w114.cell? ⟨gb212, 0, none⟩ = some (.slice none 0 0) := (blk_cell BK212.out 0).trans rfl; have hcz120_1 : w114.cell? ⟨gb212, 1, none⟩ = some (.int .i64 0) := (blk_cell BK212.out 1).trans rfl; have hfz120_0 := blk_frozen BK212.out 0; have hfz120_1 := blk_frozen BK212.out 1))
                                  (try simp only [Act.put, List.setIfInBounds_toArray, List.set_cons_zero, List.set_cons_succ])
                                  go_cut [87] (fun v87 wc => ∃ (kq : Nat) (x87_105 : Bool), v87 = .bool x87_105 ∧ Aside0 (laws_FnExactFirstCamp.j8 kq t199 x87_105 t200 t186 = some r) ∧ Aside0 (kq ≤ kj101) ∧ Aside0 (Kd.R Kd.bool 4 wc w.heap.size (fun k_ => some k_ ≠ ((.slice Ao30 t200.length co30) : Value).ownBlock ∧ some k_ ≠ ((.slice Ao115 t207.length co115) : Value).ownBlock ∧ ¬ D216_ k_ ∧ D217_ k_ ∧ D218_ k_ ∧ D219_ k_ ∧ D220_ k_) (.slice Ao18 t171.length co18) t171) ∧ Aside0 (Kd.R (Kd.int .i64) 3 wc w.heap.size (fun k_ => ¬ D217_ k_ ∧ D218_ k_ ∧ D219_ k_ ∧ D220_ k_) (.slice Ao24 t197.length co24) t197) ∧ Aside0 (Kd.R Kd.bool 4 wc w.heap.size (fun k_ => some k_ ≠ ((.slice Ao18 t171.length co18) : Value).ownBlock ∧ some k_ ≠ ((.slice Ao115 t207.length co115) : Value).ownBlock ∧ ¬ D218_ k_ ∧ D219_ k_ ∧ D220_ k_) (.slice Ao30 t200.length co30) t200) ∧ Aside0 (Kd.R Kd.bool 4 wc w.heap.size (fun k_ => some k_ ≠ ((.slice Ao18 t171.length co18) : Value).ownBlock ∧ some k_ ≠ ((.slice Ao30 t200.length co30) : Value).ownBlock ∧ ¬ D220_ k_) (.slice Ao115 t207.length co115) t207) ∧ Aside0 (wc.heap[gb164]? = some (.cells #[(.slice A0_0 l0_0.length c0_0), .int .i64 a0_1, .int .i64 a0_2] 24 (0, 0))) ∧ Aside0 (wc.heap[gb176]? = some (.cells #[(.slice Ao18 t171.length co18), .int .i64 t174] 28 (0, 0))) ∧ Aside0 (wc.heap[gb182]? = some (.cells #[(.slice Ao24 t197.length co24), .int .i64 t180, .int .i64 t181] 31 (0, 0))) ∧ Aside0 (wc.heap[gb188]? = some (.cells #[(.slice Ao30 t200.length co30), .int .i64 t186] 28 (0, 0))) ∧ Aside0 (wc.heap[gb212]? = some (.cells #[(.slice Ao115 t207.length co115), .int .i64 t210] 28 (0, 0))) ∧ Aside0 (Below w.heap.size w wc))
                                  case first =>
                                    have H := HC106.out
                                    clear HC106
                                    replace H := Option.bind_eq_some_iff.mp H
                                    obtain ⟨t213, A1210, H⟩ := H
                                    replace H : (if t213 = true then (laws_FnExactFirstCamp.j8 kj101 t199 (t211 != t175) t200 t186) else (laws_FnExactFirstCamp.j8 kj101 t199 true t200 t186)) = some r := H
                                    have A121 := Aside0.mk A1210
                                    clear A1210
                                    by_cases c122 : t213 = true
                                    · subst c122
                                      have H1 : (laws_FnExactFirstCamp.j8 kj101 t199 (t211 != t175) t200 t186) = some r := by rw [if_pos rfl] at H; exact H
                                      clear H
                                      have H := H1
                                      clear H1
                                      have H' := Aside0.mk H
                                      clear H
                                      have hnb123 := NB212_164.out
                                      have hnc123 := NB164_212.out
                                      have hnb124 := NB212_176.out
                                      have hnc124 := NB176_212.out
                                      have hnb125 := NB212_182.out
                                      have hnc125 := NB182_212.out
                                      have hnb126 := NB212_188.out
                                      have hnc126 := NB188_212.out
                                      have hcz127_0 : w114.cell? ⟨gb212, 0, none⟩ = some (.slice none 0 0) := (blk_cell BK212.out 0).trans rfl
                                      have hcz127_1 : w114.cell? ⟨gb212, 1, none⟩ = some (.int .i64 0) := (blk_cell BK212.out 1).trans rfl
                                      have hfz127_0 := blk_frozen BK212.out 0
                                      have hfz127_1 := blk_frozen BK212.out 1
                                      have hnb128 := NB176_164.out
                                      have hnc128 := NB164_176.out
                                      have hnb129 := NB176_182.out
                                      have hnc129 := NB182_176.out
                                      have hnb130 := NB176_188.out
                                      have hnc130 := NB188_176.out
                                      have hcz131_0 : w114.cell? ⟨gb176, 0, none⟩ = some (.slice Ao18 t171.length co18) := (blk_cell BK176.out 0).trans rfl
                                      have hcz131_1 : w114.cell? ⟨gb176, 1, none⟩ = some (.int .i64 t174) := (blk_cell BK176.out 1).trans rfl
                                      have hfz131_0 := blk_frozen BK176.out 0
                                      have hfz131_1 := blk_frozen BK176.out 1
                                      go_wp2_with (first | ((with_reducible refine gate_callee (f := 19) rfl ?_); refine goesL_ (some 81) rfl rfl Try.func19 (by kernel_rfl) rfl #[.agg #[.slice Ao115 t207.length co115, .int .i64 t210], .agg #[.slice Ao18 t171.length co18, .int .i64 t174]] rfl (by (try simp only [List.map_toArray, List.map_cons, List.map_nil]); first | done | rfl | (simp only [List.length_drop, List.length_take]; rfl)) ?_; (with_reducible refine (laws_eqCamp.calls kj101 _ _ t207 t210 _ _ t171 t174 true _ ?side1 ?side2 ?side3 ?side4 A121.out).mono ?_); (case side1 => refine (Kd.R_reads' (e := 4) (base := w.heap.size) (ok := fun k_ => (((True ∧ ¬ D220_ k_) ∧ some k_ ≠ (.slice Ao18 t171.length co18 : Value).ownBlock) ∧ some k_ ≠ (.slice Ao30 t200.length co30 : Value).ownBlock)) (n := t207.length) (c := co115) ?_).2.2; exact (by (with_reducible repeat (first | apply Kd.R_alloc | apply Kd.R_drewN | apply Kd.R_drew)); exact (Kd.R_mono (Kd.R_far (p := ⟨gb212, 1, none⟩) (Kd.R_far (p := ⟨gb212, 0, none⟩) (Kd.R_types HO209.out BK212.out (by decide)) (fun _ hk => hk.2) (.slice Ao115 t207.length co115)) (fun _ hk => hk.2) (.int .i64 t210)) (fun _ h_ => h_.1)))); (case side2 => exact (Kd.R_reads' HO209.out).2.1); (case side3 => refine (Kd.R_reads' (e := 4) (base := w.heap.size) (ok := fun k_ => ((((some k_ ≠ (.slice Ao30 t200.length co30 : Value).ownBlock ∧ (¬ D216_ k_ ∧ (D217_ k_ ∧ D218_ k_))) ∧ D219_ k_) ∧ D220_ k_) ∧ some k_ ≠ (.slice Ao115 t207.length co115 : Value).ownBlock)) (n := t171.length) (c := co18) ?_).2.2; exact (by (with_reducible repeat (first | apply Kd.R_alloc | apply Kd.R_drewN | apply Kd.R_drew)); exact (Kd.R_mono (Kd.R_far (p := ⟨gb212, 1, none⟩) (Kd.R_far (p := ⟨gb212, 0, none⟩) (Kd.R_types HO_177000.out BK212.out (by decide)) (fun _ hk => hk.2) (.slice Ao115 t207.length co115)) (fun _ hk => hk.2) (.int .i64 t210)) (fun _ h_ => h_.1)))); (case side4 => exact (Kd.R_reads' HO_177000.out).2.1); rintro e w132 ⟨rfl, hb⟩; refine ⟨_, rfl, ?_⟩; have n0_ := Aside0.mk (Kd.R_below (by (with_reducible repeat (first | apply Kd.R_alloc | apply Kd.R_drewN | apply Kd.R_drew)); exact (Kd.R_mono (Kd.R_far (p := ⟨gb212, 1, none⟩) (Kd.R_far (p := ⟨gb212, 0, none⟩) (Kd.R_types HO_177000.out BK212.out (by decide)) (fun _ hk => hk.2) (.slice Ao115 t207.length co115)) (fun _ hk => hk.2) (.int .i64 t210)) (fun _ h_ => h_.1))) hb); have n1_ := Aside0.mk (Kd.R_below (by (with_reducible repeat (first | apply Kd.R_alloc | apply Kd.R_drewN | apply Kd.R_drew)); exact (Kd.R_mono (Kd.R_far (p := ⟨gb212, 1, none⟩) (Kd.R_far (p := ⟨gb212, 0, none⟩) (Kd.R_types HO_183000.out BK212.out (by decide)) (fun _ hk => hk.2) (.slice Ao115 t207.length co115)) (fun _ hk => hk.2) (.int .i64 t210)) (fun _ h_ => h_.1))) hb); have n2_ := Aside0.mk (Kd.R_below (by (with_reducible repeat (first | apply Kd.R_alloc | apply Kd.R_drewN | apply Kd.R_drew)); exact (Kd.R_mono (Kd.R_far (p := ⟨gb212, 1, none⟩) (Kd.R_far (p := ⟨gb212, 0, none⟩) (Kd.R_types HO_189000.out BK212.out (by decide)) (fun _ hk => hk.2) (.slice Ao115 t207.length co115)) (fun _ hk => hk.2) (.int .i64 t210)) (fun _ h_ => h_.1))) hb); have n3_ := Aside0.mk (Kd.R_below (by (with_reducible repeat (first | apply Kd.R_alloc | apply Kd.R_drewN | apply Kd.R_drew)); exact (Kd.R_mono (Kd.R_far (p := ⟨gb212, 1, none⟩) (Kd.R_far (p := ⟨gb212, 0, none⟩) (Kd.R_types HO204.out BK212.out (by decide)) (fun _ hk => hk.2) (.slice Ao115 t207.length co115)) (fun _ hk => hk.2) (.int .i64 t210)) (fun _ h_ => h_.1))) hb); have n4_ := Aside0.mk (Kd.R_below (by (with_reducible repeat (first | apply Kd.R_alloc | apply Kd.R_drewN | apply Kd.R_drew)); exact (Kd.R_mono (Kd.R_far (p := ⟨gb212, 1, none⟩) (Kd.R_far (p := ⟨gb212, 0, none⟩) (Kd.R_types HO209.out BK212.out (by decide)) (fun _ hk => hk.2) (.slice Ao115 t207.length co115)) (fun _ hk => hk.2) (.int .i64 t210)) (fun _ h_ => h_.1))) hb); have n5_ := Aside0.mk (blk_below (g := gb164) (o := .cells #[.slice A0_0 l0_0.length c0_0, .int .i64 a0_1, .int .i64 a0_2] 24 (0, 0)) (by (with_reducible repeat (first | refine blk_drewN ?_ _ | refine blk_drew ?_ | refine blk_alloc ?_ _)); refine blk_far ?_ NB164_212.out _; (with_reducible repeat (first | refine blk_drewN ?_ _ | refine blk_drew ?_ | refine blk_alloc ?_ _)); refine blk_far ?_ NB164_212.out _; (with_reducible repeat (first | refine blk_drewN ?_ _ | refine blk_drew ?_ | refine blk_alloc ?_ _)); exact BK164.out) hb); have n6_ := Aside0.mk (blk_below (g := gb176) (o := .cells #[.slice Ao18 t171.length co18, .int .i64 t174] 28 (0, 0)) (by (with_reducible repeat (first | refine blk_drewN ?_ _ | refine blk_drew ?_ | refine blk_alloc ?_ _)); refine blk_far ?_ NB176_212.out _; (with_reducible repeat (first | refine blk_drewN ?_ _ | refine blk_drew ?_ | refine blk_alloc ?_ _)); refine blk_far ?_ NB176_212.out _; (with_reducible repeat (first | refine blk_drewN ?_ _ | refine blk_drew ?_ | refine blk_alloc ?_ _)); exact BK176.out) hb); have n7_ := Aside0.mk (blk_below (g := gb182) (o := .cells #[.slice Ao24 t197.length co24, .int .i64 t180, .int .i64 t181] 31 (0, 0)) (by (with_reducible repeat (first | refine blk_drewN ?_ _ | refine blk_drew ?_ | refine blk_alloc ?_ _)); refine blk_far ?_ NB182_212.out _; (with_reducible repeat (first | refine blk_drewN ?_ _ | refine blk_drew ?_ | refine blk_alloc ?_ _)); refine blk_far ?_ NB182_212.out _; (with_reducible repeat (first | refine blk_drewN ?_ _ | refine blk_drew ?_ | refine blk_alloc ?_ _)); exact BK182.out) hb); have n8_ := Aside0.mk (blk_below (g := gb188) (o := .cells #[.slice Ao30 t200.length co30, .int .i64 t186] 28 (0, 0)) (by (with_reducible repeat (first | refine blk_drewN ?_ _ | refine blk_drew ?_ | refine blk_alloc ?_ _)); refine blk_far ?_ NB188_212.out _; (with_reducible repeat (first | refine blk_drewN ?_ _ | refine blk_drew ?_ | refine blk_alloc ?_ _)); refine blk_far ?_ NB188_212.out _; (with_reducible repeat (first | refine blk_drewN ?_ _ | refine blk_drew ?_ | refine blk_alloc ?_ _)); exact BK188.out) hb); have n9_ := Aside0.mk (blk_below (g := gb212) (o := .cells #[.slice Ao115 t207.length co115, .int .i64 t210] 28 (0, 0)) (by (with_reducible repeat (first | refine blk_drewN ?_ _ | refine blk_drew ?_ | refine blk_alloc ?_ _)); refine blk_put (cs := #[.slice Ao115 t207.length co115, .int .i64 0]) ?_ 1 _ rfl; (with_reducible repeat (first | refine blk_drewN ?_ _ | refine blk_drew ?_ | refine blk_alloc ?_ _)); refine blk_put (cs := #[.slice none 0 0, .int .i64 0]) ?_ 0 _ rfl; (with_reducible repeat (first | refine blk_drewN ?_ _ | refine blk_drew ?_ | refine blk_alloc ?_ _)); exact BK212.out) hb); have n10_ := Aside0.mk (below_step (by repeat (first | (with_reducible first | exact HB.out | apply below_alloc | apply pw_below_drewN | apply below_drew1 | refine below_set ?_ GE164.out | refine below_set ?_ GE176.out | refine below_set ?_ GE182.out | refine below_set ?_ GE188.out | refine below_set ?_ GE212.out) | exact HB.out)) hb); clear HO_177000; clear HO_183000; clear HO_189000; clear HO204; clear HO209; clear BK164; clear BK176; clear BK182; clear BK188; clear BK212; clear HB; have HO_177000 := n0_; have HO_183000 := n1_; have HO_189000 := n2_; have HO204 := n3_; have HO209 := n4_; have BK164 := n5_; have BK176 := n6_; have BK182 := n7_; have BK188 := n8_; have BK212 := n9_; have HB := n10_; clear n0_ n1_ n2_ n3_ n4_ n5_ n6_ n7_ n8_ n9_ n10_; (try clear hb); (try clear hb2); (try clear hk); (try clear hi)))
                                      go_meet
                                      case rel => exact ⟨_, ((t211 != t175)), (by first | rfl | (simp; done) | (simp [*]; done)), H', ⟨by have := HJ2.out; have := HJ11.out; have := HJ52.out; have := HJ56.out; have := HJ63.out; have := HJ88.out; have := HJ92.out; have := HJ101.out; first | omega | exact Nat.le_refl _⟩, ⟨by (try simp only [hl183000_63]); (try simp only [hl189000_92]); (with_reducible repeat (first | apply Kd.R_alloc | apply Kd.R_drewN | apply Kd.R_drew)); exact Kd.R_mono HO_177000.out (fun _ hk => ⟨hk.1.1.1.1, ⟨hk.2, ⟨hk.1.1.1.2.1, ⟨hk.1.1.1.2.2.1, ⟨hk.1.1.1.2.2.2, ⟨hk.1.1.2, hk.1.2⟩⟩⟩⟩⟩⟩)⟩, ⟨by (try simp only [hl183000_63]); (try simp only [hl189000_92]); (with_reducible repeat (first | apply Kd.R_alloc | apply Kd.R_drewN | apply Kd.R_drew)); exact Kd.R_mono HO_183000.out (fun _ hk => ⟨hk.1.1.1.1, ⟨hk.1.1.1.2, ⟨hk.1.1.2, hk.2⟩⟩⟩)⟩, ⟨by (try simp only [hl183000_63]); (try simp only [hl189000_92]); (with_reducible repeat (first | apply Kd.R_alloc | apply Kd.R_drewN | apply Kd.R_drew)); exact Kd.R_mono HO_189000.out (fun _ hk => ⟨hk.1.1.1.1, ⟨hk.2, ⟨hk.1.1.1.2, ⟨hk.1.1.2, hk.1.2⟩⟩⟩⟩)⟩, ⟨by (try simp only [hl183000_63]); (try simp only [hl189000_92]); (with_reducible repeat (first | apply Kd.R_alloc | apply Kd.R_drewN | apply Kd.R_drew)); exact Kd.R_mono HO209.out (fun _ hk => ⟨hk.1.2, ⟨hk.2, hk.1.1.2⟩⟩)⟩, ⟨by (try simp only [hl183000_63]); (try simp only [hl189000_92]); (with_reducible repeat (first | refine blk_drewN ?_ _ | refine blk_drew ?_ | refine blk_alloc ?_ _)); exact BK164.out⟩, ⟨by (try simp only [hl183000_63]); (try simp only [hl189000_92]); (with_reducible repeat (first | refine blk_drewN ?_ _ | refine blk_drew ?_ | refine blk_alloc ?_ _)); exact BK176.out⟩, ⟨by (try simp only [hl183000_63]); (try simp only [hl189000_92]); (with_reducible repeat (first | refine blk_drewN ?_ _ | refine blk_drew ?_ | refine blk_alloc ?_ _)); exact BK182.out⟩, ⟨by (try simp only [hl183000_63]); (try simp only [hl189000_92]); (with_reducible repeat (first | refine blk_drewN ?_ _ | refine blk_drew ?_ | refine blk_alloc ?_ _)); exact BK188.out⟩, ⟨by (try simp only [hl183000_63]); (try simp only [hl189000_92]); (with_reducible repeat (first | refine blk_drewN ?_ _ | refine blk_drew ?_ | refine blk_alloc ?_ _)); exact BK212.out⟩, ⟨by repeat (first | (with_reducible first | exact HB.out | apply below_alloc | apply pw_below_drewN | apply below_drew1 | refine below_set ?_ GE164.out | refine below_set ?_ GE176.out | refine below_set ?_ GE182.out | refine below_set ?_ GE188.out | refine below_set ?_ GE212.out) | exact HB.out)⟩⟩
                                    · replace c122 := Bool.eq_false_iff.mpr c122
                                      subst c122
                                      have H1 : (laws_FnExactFirstCamp.j8 kj101 t199 true t200 t186) = some r := by rw [if_neg (show ¬ (false = true) by decide)] at H; exact H
                                      clear H
                                      have H := H1
                                      clear H1
                                      have H' := Aside0.mk H
                                      clear H
                                      have hnb133 := NB212_164.out
                                      have hnc133 := NB164_212.out
                                      have hnb134 := NB212_176.out
                                      have hnc134 := NB176_212.out
                                      have hnb135 := NB212_182.out
                                      have hnc135 := NB182_212.out
                                      have hnb136 := NB212_188.out
                                      have hnc136 := NB188_212.out
                                      have hcz137_0 : w114.cell? ⟨gb212, 0, none⟩ = some (.slice none 0 0) := (blk_cell BK212.out 0).trans rfl
                                      have hcz137_1 : w114.cell? ⟨gb212, 1, none⟩ = some (.int .i64 0) := (blk_cell BK212.out 1).trans rfl
                                      have hfz137_0 := blk_frozen BK212.out 0
                                      have hfz137_1 := blk_frozen BK212.out 1
                                      have hnb138 := NB176_164.out
                                      have hnc138 := NB164_176.out
                                      have hnb139 := NB176_182.out
                                      have hnc139 := NB182_176.out
                                      have hnb140 := NB176_188.out
                                      have hnc140 := NB188_176.out
                                      have hcz141_0 : w114.cell? ⟨gb176, 0, none⟩ = some (.slice Ao18 t171.length co18) := (blk_cell BK176.out 0).trans rfl
                                      have hcz141_1 : w114.cell? ⟨gb176, 1, none⟩ = some (.int .i64 t174) := (blk_cell BK176.out 1).trans rfl
                                      have hfz141_0 := blk_frozen BK176.out 0
                                      have hfz141_1 := blk_frozen BK176.out 1
                                      go_wp2_with (first | ((with_reducible refine gate_callee (f := 19) rfl ?_); refine goesL_ (some 81) rfl rfl Try.func19 (by kernel_rfl) rfl #[.agg #[.slice Ao115 t207.length co115, .int .i64 t210], .agg #[.slice Ao18 t171.length co18, .int .i64 t174]] rfl (by (try simp only [List.map_toArray, List.map_cons, List.map_nil]); first | done | rfl | (simp only [List.length_drop, List.length_take]; rfl)) ?_; (with_reducible refine (laws_eqCamp.calls kj101 _ _ t207 t210 _ _ t171 t174 false _ ?side1 ?side2 ?side3 ?side4 A121.out).mono ?_); (case side1 => refine (Kd.R_reads' (e := 4) (base := w.heap.size) (ok := fun k_ => (((True ∧ ¬ D220_ k_) ∧ some k_ ≠ (.slice Ao18 t171.length co18 : Value).ownBlock) ∧ some k_ ≠ (.slice Ao30 t200.length co30 : Value).ownBlock)) (n := t207.length) (c := co115) ?_).2.2; exact (by (with_reducible repeat (first | apply Kd.R_alloc | apply Kd.R_drewN | apply Kd.R_drew)); exact (Kd.R_mono (Kd.R_far (p := ⟨gb212, 1, none⟩) (Kd.R_far (p := ⟨gb212, 0, none⟩) (Kd.R_types HO209.out BK212.out (by decide)) (fun _ hk => hk.2) (.slice Ao115 t207.length co115)) (fun _ hk => hk.2) (.int .i64 t210)) (fun _ h_ => h_.1)))); (case side2 => exact (Kd.R_reads' HO209.out).2.1); (case side3 => refine (Kd.R_reads' (e := 4) (base := w.heap.size) (ok := fun k_ => ((((some k_ ≠ (.slice Ao30 t200.length co30 : Value).ownBlock ∧ (¬ D216_ k_ ∧ (D217_ k_ ∧ D218_ k_))) ∧ D219_ k_) ∧ D220_ k_) ∧ some k_ ≠ (.slice Ao115 t207.length co115 : Value).ownBlock)) (n := t171.length) (c := co18) ?_).2.2; exact (by (with_reducible repeat (first | apply Kd.R_alloc | apply Kd.R_drewN | apply Kd.R_drew)); exact (Kd.R_mono (Kd.R_far (p := ⟨gb212, 1, none⟩) (Kd.R_far (p := ⟨gb212, 0, none⟩) (Kd.R_types HO_177000.out BK212.out (by decide)) (fun _ hk => hk.2) (.slice Ao115 t207.length co115)) (fun _ hk => hk.2) (.int .i64 t210)) (fun _ h_ => h_.1)))); (case side4 => exact (Kd.R_reads' HO_177000.out).2.1); rintro e w142 ⟨rfl, hb⟩; refine ⟨_, rfl, ?_⟩; have n0_ := Aside0.mk (Kd.R_below (by (with_reducible repeat (first | apply Kd.R_alloc | apply Kd.R_drewN | apply Kd.R_drew)); exact (Kd.R_mono (Kd.R_far (p := ⟨gb212, 1, none⟩) (Kd.R_far (p := ⟨gb212, 0, none⟩) (Kd.R_types HO_177000.out BK212.out (by decide)) (fun _ hk => hk.2) (.slice Ao115 t207.length co115)) (fun _ hk => hk.2) (.int .i64 t210)) (fun _ h_ => h_.1))) hb); have n1_ := Aside0.mk (Kd.R_below (by (with_reducible repeat (first | apply Kd.R_alloc | apply Kd.R_drewN | apply Kd.R_drew)); exact (Kd.R_mono (Kd.R_far (p := ⟨gb212, 1, none⟩) (Kd.R_far (p := ⟨gb212, 0, none⟩) (Kd.R_types HO_183000.out BK212.out (by decide)) (fun _ hk => hk.2) (.slice Ao115 t207.length co115)) (fun _ hk => hk.2) (.int .i64 t210)) (fun _ h_ => h_.1))) hb); have n2_ := Aside0.mk (Kd.R_below (by (with_reducible repeat (first | apply Kd.R_alloc | apply Kd.R_drewN | apply Kd.R_drew)); exact (Kd.R_mono (Kd.R_far (p := ⟨gb212, 1, none⟩) (Kd.R_far (p := ⟨gb212, 0, none⟩) (Kd.R_types HO_189000.out BK212.out (by decide)) (fun _ hk => hk.2) (.slice Ao115 t207.length co115)) (fun _ hk => hk.2) (.int .i64 t210)) (fun _ h_ => h_.1))) hb); have n3_ := Aside0.mk (Kd.R_below (by (with_reducible repeat (first | apply Kd.R_alloc | apply Kd.R_drewN | apply Kd.R_drew)); exact (Kd.R_mono (Kd.R_far (p := ⟨gb212, 1, none⟩) (Kd.R_far (p := ⟨gb212, 0, none⟩) (Kd.R_types HO204.out BK212.out (by decide)) (fun _ hk => hk.2) (.slice Ao115 t207.length co115)) (fun _ hk => hk.2) (.int .i64 t210)) (fun _ h_ => h_.1))) hb); have n4_ := Aside0.mk (Kd.R_below (by (with_reducible repeat (first | apply Kd.R_alloc | apply Kd.R_drewN | apply Kd.R_drew)); exact (Kd.R_mono (Kd.R_far (p := ⟨gb212, 1, none⟩) (Kd.R_far (p := ⟨gb212, 0, none⟩) (Kd.R_types HO209.out BK212.out (by decide)) (fun _ hk => hk.2) (.slice Ao115 t207.length co115)) (fun _ hk => hk.2) (.int .i64 t210)) (fun _ h_ => h_.1))) hb); have n5_ := Aside0.mk (blk_below (g := gb164) (o := .cells #[.slice A0_0 l0_0.length c0_0, .int .i64 a0_1, .int .i64 a0_2] 24 (0, 0)) (by (with_reducible repeat (first | refine blk_drewN ?_ _ | refine blk_drew ?_ | refine blk_alloc ?_ _)); refine blk_far ?_ NB164_212.out _; (with_reducible repeat (first | refine blk_drewN ?_ _ | refine blk_drew ?_ | refine blk_alloc ?_ _)); refine blk_far ?_ NB164_212.out _; (with_reducible repeat (first | refine blk_drewN ?_ _ | refine blk_drew ?_ | refine blk_alloc ?_ _)); exact BK164.out) hb); have n6_ := Aside0.mk (blk_below (g := gb176) (o := .cells #[.slice Ao18 t171.length co18, .int .i64 t174] 28 (0, 0)) (by (with_reducible repeat (first | refine blk_drewN ?_ _ | refine blk_drew ?_ | refine blk_alloc ?_ _)); refine blk_far ?_ NB176_212.out _; (with_reducible repeat (first | refine blk_drewN ?_ _ | refine blk_drew ?_ | refine blk_alloc ?_ _)); refine blk_far ?_ NB176_212.out _; (with_reducible repeat (first | refine blk_drewN ?_ _ | refine blk_drew ?_ | refine blk_alloc ?_ _)); exact BK176.out) hb); have n7_ := Aside0.mk (blk_below (g := gb182) (o := .cells #[.slice Ao24 t197.length co24, .int .i64 t180, .int .i64 t181] 31 (0, 0)) (by (with_reducible repeat (first | refine blk_drewN ?_ _ | refine blk_drew ?_ | refine blk_alloc ?_ _)); refine blk_far ?_ NB182_212.out _; (with_reducible repeat (first | refine blk_drewN ?_ _ | refine blk_drew ?_ | refine blk_alloc ?_ _)); refine blk_far ?_ NB182_212.out _; (with_reducible repeat (first | refine blk_drewN ?_ _ | refine blk_drew ?_ | refine blk_alloc ?_ _)); exact BK182.out) hb); have n8_ := Aside0.mk (blk_below (g := gb188) (o := .cells #[.slice Ao30 t200.length co30, .int .i64 t186] 28 (0, 0)) (by (with_reducible repeat (first | refine blk_drewN ?_ _ | refine blk_drew ?_ | refine blk_alloc ?_ _)); refine blk_far ?_ NB188_212.out _; (with_reducible repeat (first | refine blk_drewN ?_ _ | refine blk_drew ?_ | refine blk_alloc ?_ _)); refine blk_far ?_ NB188_212.out _; (with_reducible repeat (first | refine blk_drewN ?_ _ | refine blk_drew ?_ | refine blk_alloc ?_ _)); exact BK188.out) hb); have n9_ := Aside0.mk (blk_below (g := gb212) (o := .cells #[.slice Ao115 t207.length co115, .int .i64 t210] 28 (0, 0)) (by (with_reducible repeat (first | refine blk_drewN ?_ _ | refine blk_drew ?_ | refine blk_alloc ?_ _)); refine blk_put (cs := #[.slice Ao115 t207.length co115, .int .i64 0]) ?_ 1 _ rfl; (with_reducible repeat (first | refine blk_drewN ?_ _ | refine blk_drew ?_ | refine blk_alloc ?_ _)); refine blk_put (cs := #[.slice none 0 0, .int .i64 0]) ?_ 0 _ rfl; (with_reducible repeat (first | refine blk_drewN ?_ _ | refine blk_drew ?_ | refine blk_alloc ?_ _)); exact BK212.out) hb); have n10_ := Aside0.mk (below_step (by repeat (first | (with_reducible first | exact HB.out | apply below_alloc | apply pw_below_drewN | apply below_drew1 | refine below_set ?_ GE164.out | refine below_set ?_ GE176.out | refine below_set ?_ GE182.out | refine below_set ?_ GE188.out | refine below_set ?_ GE212.out) | exact HB.out)) hb); clear HO_177000; clear HO_183000; clear HO_189000; clear HO204; clear HO209; clear BK164; clear BK176; clear BK182; clear BK188; clear BK212; clear HB; have HO_177000 := n0_; have HO_183000 := n1_; have HO_189000 := n2_; have HO204 := n3_; have HO209 := n4_; have BK164 := n5_; have BK176 := n6_; have BK182 := n7_; have BK188 := n8_; have BK212 := n9_; have HB := n10_; clear n0_ n1_ n2_ n3_ n4_ n5_ n6_ n7_ n8_ n9_ n10_; (try clear hb); (try clear hb2); (try clear hk); (try clear hi)))
                                      go_meet
                                      case rel => exact ⟨_, (true), (by first | rfl | (simp; done) | (simp [*]; done)), H', ⟨by have := HJ2.out; have := HJ11.out; have := HJ52.out; have := HJ56.out; have := HJ63.out; have := HJ88.out; have := HJ92.out; have := HJ101.out; first | omega | exact Nat.le_refl _⟩, ⟨by (try simp only [hl183000_63]); (try simp only [hl189000_92]); (with_reducible repeat (first | apply Kd.R_alloc | apply Kd.R_drewN | apply Kd.R_drew)); exact Kd.R_mono HO_177000.out (fun _ hk => ⟨hk.1.1.1.1, ⟨hk.2, ⟨hk.1.1.1.2.1, ⟨hk.1.1.1.2.2.1, ⟨hk.1.1.1.2.2.2, ⟨hk.1.1.2, hk.1.2⟩⟩⟩⟩⟩⟩)⟩, ⟨by (try simp only [hl183000_63]); (try simp only [hl189000_92]); (with_reducible repeat (first | apply Kd.R_alloc | apply Kd.R_drewN | apply Kd.R_drew)); exact Kd.R_mono HO_183000.out (fun _ hk => ⟨hk.1.1.1.1, ⟨hk.1.1.1.2, ⟨hk.1.1.2, hk.2⟩⟩⟩)⟩, ⟨by (try simp only [hl183000_63]); (try simp only [hl189000_92]); (with_reducible repeat (first | apply Kd.R_alloc | apply Kd.R_drewN | apply Kd.R_drew)); exact Kd.R_mono HO_189000.out (fun _ hk => ⟨hk.1.1.1.1, ⟨hk.2, ⟨hk.1.1.1.2, ⟨hk.1.1.2, hk.1.2⟩⟩⟩⟩)⟩, ⟨by (try simp only [hl183000_63]); (try simp only [hl189000_92]); (with_reducible repeat (first | apply Kd.R_alloc | apply Kd.R_drewN | apply Kd.R_drew)); exact Kd.R_mono HO209.out (fun _ hk => ⟨hk.1.2, ⟨hk.2, hk.1.1.2⟩⟩)⟩, ⟨by (try simp only [hl183000_63]); (try simp only [hl189000_92]); (with_reducible repeat (first | refine blk_drewN ?_ _ | refine blk_drew ?_ | refine blk_alloc ?_ _)); exact BK164.out⟩, ⟨by (try simp only [hl183000_63]); (try simp only [hl189000_92]); (with_reducible repeat (first | refine blk_drewN ?_ _ | refine blk_drew ?_ | refine blk_alloc ?_ _)); exact BK176.out⟩, ⟨by (try simp only [hl183000_63]); (try simp only [hl189000_92]); (with_reducible repeat (first | refine blk_drewN ?_ _ | refine blk_drew ?_ | refine blk_alloc ?_ _)); exact BK182.out⟩, ⟨by (try simp only [hl183000_63]); (try simp only [hl189000_92]); (with_reducible repeat (first | refine blk_drewN ?_ _ | refine blk_drew ?_ | refine blk_alloc ?_ _)); exact BK188.out⟩, ⟨by (try simp only [hl183000_63]); (try simp only [hl189000_92]); (with_reducible repeat (first | refine blk_drewN ?_ _ | refine blk_drew ?_ | refine blk_alloc ?_ _)); exact BK212.out⟩, ⟨by repeat (first | (with_reducible first | exact HB.out | apply below_alloc | apply pw_below_drewN | apply below_drew1 | refine below_set ?_ GE164.out | refine below_set ?_ GE176.out | refine below_set ?_ GE182.out | refine below_set ?_ GE188.out | refine below_set ?_ GE212.out) | exact HB.out)⟩⟩
                                  case rest =>
                                    clear HC106
                                    try clear c1
                                    try clear c2
                                    try clear p2
                                    try clear c3
                                    try clear c4
                                    try clear c5
                                    try clear c6
                                    try clear c7
                                    try clear c7b0
                                    try clear c8
                                    try clear c9
                                    try clear c10
                                    try clear c11
                                    try clear c12
                                    try clear c13
                                    try clear c14
                                    try clear c15
                                    try clear c16
                                    try clear c17
                                    try clear c18
                                    try clear c19
                                    try clear c20
                                    try clear c21
                                    try clear c22
                                    try clear c23
                                    try clear c25
                                    try clear c26
                                    try clear c31
                                    try clear c32
                                    try clear c33
                                    try clear c36
                                    try clear c37
                                    try clear c38
                                    try clear c39
                                    try clear c41
                                    try clear c42
                                    try clear c45
                                    try clear c46
                                    try clear c47
                                    try clear c49
                                    try clear c50
                                    try clear c54
                                    try clear c62
                                    try clear c65
                                    try clear c66
                                    try clear c67
                                    try clear c70
                                    try clear c70b0
                                    try clear c72
                                    try clear c73
                                    try clear c74
                                    try clear c75
                                    try clear c77
                                    try clear c78
                                    try clear c81
                                    try clear c82
                                    try clear c83
                                    try clear c85
                                    try clear c86
                                    try clear c90
                                    try clear c94
                                    try clear c95
                                    try clear c96
                                    try clear c101
                                    try clear c101b0
                                    try clear c103
                                    try clear c103b0
                                    try clear c103b1
                                    try clear c107
                                    try clear c108
                                    try clear c109
                                    try clear c116
                                    try clear c117
                                    try clear c118
                                    try clear c119
                                    try clear c122
                                    try clear c123
                                    try clear c124
                                    try clear c125
                                    try clear c126
                                    try clear c128
                                    try clear c129
                                    try clear c130
                                    try clear c133
                                    try clear c134
                                    try clear c135
                                    try clear c136
                                    try clear c138
                                    try clear c139
                                    try clear c140
                                    try clear hcz110_0
                                    try clear hcz110_1
                                    try clear hcz110_2
                                    try clear hcz120_0
                                    try clear hcz120_1
                                    try clear hcz127_0
                                    try clear hcz127_1
                                    try clear hcz131_0
                                    try clear hcz131_1
                                    try clear hcz137_0
                                    try clear hcz137_1
                                    try clear hcz13_0
                                    try clear hcz13_1
                                    try clear hcz13_2
                                    try clear hcz141_0
                                    try clear hcz141_1
                                    try clear hcz20_0
                                    try clear hcz20_1
                                    try clear hcz21_0
                                    try clear hcz21_1
                                    try clear hcz21_2
                                    try clear hcz27_0
                                    try clear hcz27_1
                                    try clear hcz27_2
                                    try clear hcz34_0
                                    try clear hcz34_1
                                    try clear hcz40_0
                                    try clear hcz40_1
                                    try clear hcz43_0
                                    try clear hcz43_1
                                    try clear hcz48_0
                                    try clear hcz48_1
                                    try clear hcz51_0
                                    try clear hcz51_1
                                    try clear hcz5_0
                                    try clear hcz5_1
                                    try clear hcz5_2
                                    try clear hcz68_0
                                    try clear hcz68_1
                                    try clear hcz68_2
                                    try clear hcz76_0
                                    try clear hcz76_1
                                    try clear hcz79_0
                                    try clear hcz79_1
                                    try clear hcz84_0
                                    try clear hcz84_1
                                    try clear hcz87_0
                                    try clear hcz87_1
                                    try clear hcz97_0
                                    try clear hcz97_1
                                    try clear hcz99_0
                                    try clear hcz99_1
                                    try clear hfz110_0
                                    try clear hfz110_1
                                    try clear hfz110_2
                                    try clear hfz120_0
                                    try clear hfz120_1
                                    try clear hfz127_0
                                    try clear hfz127_1
                                    try clear hfz131_0
                                    try clear hfz131_1
                                    try clear hfz137_0
                                    try clear hfz137_1
                                    try clear hfz13_0
                                    try clear hfz13_1
                                    try clear hfz13_2
                                    try clear hfz141_0
                                    try clear hfz141_1
                                    try clear hfz20_0
                                    try clear hfz20_1
                                    try clear hfz21_0
                                    try clear hfz21_1
                                    try clear hfz21_2
                                    try clear hfz27_0
                                    try clear hfz27_1
                                    try clear hfz27_2
                                    try clear hfz34_0
                                    try clear hfz34_1
                                    try clear hfz40_0
                                    try clear hfz40_1
                                    try clear hfz43_0
                                    try clear hfz43_1
                                    try clear hfz48_0
                                    try clear hfz48_1
                                    try clear hfz51_0
                                    try clear hfz51_1
                                    try clear hfz5_0
                                    try clear hfz5_1
                                    try clear hfz5_2
                                    try clear hfz68_0
                                    try clear hfz68_1
                                    try clear hfz68_2
                                    try clear hfz76_0
                                    try clear hfz76_1
                                    try clear hfz79_0
                                    try clear hfz79_1
                                    try clear hfz84_0
                                    try clear hfz84_1
                                    try clear hfz87_0
                                    try clear hfz87_1
                                    try clear hfz97_0
                                    try clear hfz97_1
                                    try clear hfz99_0
                                    try clear hfz99_1
                                    try clear p2
                                    obtain ⟨kq, x87_105, rfl, HA, HJ105, HO_177000, HO_183000, HO_189000, HO_213000, BK164, BK176, BK182, BK188, BK212, HB⟩ := hcut
                                    cases kq with
                                    | zero => exact absurd HA.out (by simp [laws_FnExactFirstCamp.j8])
                                    | succ kj105 =>
                                      have H := HA.out
                                      clear HA
                                      simp only [laws_FnExactFirstCamp.j8] at H
                                      have HC143 := Aside0.mk H
                                      clear H
                                      go_upto_if 87 with (fail)
                                      go_cut [] (fun wc => ∃ (kq : Nat), Aside0 (laws_FnExactFirstCamp.j9 kq t199 t200 t186 = some r) ∧ Aside0 (kq ≤ kj105) ∧ Aside0 (Kd.R Kd.bool 4 wc w.heap.size (fun k_ => some k_ ≠ ((.slice Ao30 t200.length co30) : Value).ownBlock ∧ some k_ ≠ ((.slice Ao115 t207.length co115) : Value).ownBlock ∧ ¬ D216_ k_ ∧ D217_ k_ ∧ D218_ k_ ∧ D219_ k_ ∧ D220_ k_) (.slice Ao18 t171.length co18) t171) ∧ Aside0 (Kd.R (Kd.int .i64) 3 wc w.heap.size (fun k_ => ¬ D217_ k_ ∧ D218_ k_ ∧ D219_ k_ ∧ D220_ k_) (.slice Ao24 t197.length co24) t197) ∧ Aside0 (Kd.R Kd.bool 4 wc w.heap.size (fun k_ => some k_ ≠ ((.slice Ao18 t171.length co18) : Value).ownBlock ∧ some k_ ≠ ((.slice Ao115 t207.length co115) : Value).ownBlock ∧ ¬ D218_ k_ ∧ D219_ k_ ∧ D220_ k_) (.slice Ao30 t200.length co30) t200) ∧ Aside0 (Kd.R Kd.bool 4 wc w.heap.size (fun k_ => some k_ ≠ ((.slice Ao18 t171.length co18) : Value).ownBlock ∧ some k_ ≠ ((.slice Ao30 t200.length co30) : Value).ownBlock ∧ ¬ D220_ k_) (.slice Ao115 t207.length co115) t207) ∧ Aside0 (wc.heap[gb164]? = some (.cells #[(.slice A0_0 l0_0.length c0_0), .int .i64 a0_1, .int .i64 a0_2] 24 (0, 0))) ∧ Aside0 (wc.heap[gb176]? = some (.cells #[(.slice Ao18 t171.length co18), .int .i64 t174] 28 (0, 0))) ∧ Aside0 (wc.heap[gb182]? = some (.cells #[(.slice Ao24 t197.length co24), .int .i64 t180, .int .i64 t181] 31 (0, 0))) ∧ Aside0 (wc.heap[gb188]? = some (.cells #[(.slice Ao30 t200.length co30), .int .i64 t186] 28 (0, 0))) ∧ Aside0 (wc.heap[gb212]? = some (.cells #[(.slice Ao115 t207.length co115), .int .i64 t210] 28 (0, 0))) ∧ Aside0 (Below w.heap.size w wc))
                                      case first =>
                                        have H := HC143.out
                                        clear HC143
                                        by_cases c144 : x87_105 = true
                                        · subst c144
                                          have H1 : (some false) = some r := by rw [if_pos rfl] at H; exact H
                                          clear H
                                          have H := H1
                                          clear H1
                                          obtain rfl := Option.some.inj H
                                          go_wp2
                                          go_ret
                                          exact ⟨by first | rfl | (simp [errW_none, errW_some] <;> rfl) | (simp [*, errW_none, errW_some] <;> rfl), by repeat (first | (with_reducible first | exact HB.out | apply below_alloc | apply pw_below_drewN | apply below_drew1 | refine below_set ?_ GE164.out | refine below_set ?_ GE176.out | refine below_set ?_ GE182.out | refine below_set ?_ GE188.out | refine below_set ?_ GE212.out) | exact HB.out)⟩
                                        · replace c144 := Bool.eq_false_iff.mpr c144
                                          subst c144
                                          have H1 : (laws_FnExactFirstCamp.j9 kj105 t199 t200 t186) = some r := by rw [if_neg (show ¬ (false = true) by decide)] at H; exact H
                                          clear H
                                          have H := H1
                                          clear H1
                                          have H' := Aside0.mk H
                                          clear H
                                          go_wp2
                                          go_meet
                                          case rel => exact ⟨_, H', ⟨by have := HJ2.out; have := HJ11.out; have := HJ52.out; have := HJ56.out; have := HJ63.out; have := HJ88.out; have := HJ92.out; have := HJ101.out; have := HJ105.out; first | omega | exact Nat.le_refl _⟩, ⟨by (try simp only [hl183000_63]); (try simp only [hl189000_92]); (with_reducible repeat (first | apply Kd.R_alloc | apply Kd.R_drewN | apply Kd.R_drew)); exact HO_177000.out⟩, ⟨by (try simp only [hl183000_63]); (try simp only [hl189000_92]); (with_reducible repeat (first | apply Kd.R_alloc | apply Kd.R_drewN | apply Kd.R_drew)); exact HO_183000.out⟩, ⟨by (try simp only [hl183000_63]); (try simp only [hl189000_92]); (with_reducible repeat (first | apply Kd.R_alloc | apply Kd.R_drewN | apply Kd.R_drew)); exact HO_189000.out⟩, ⟨by (try simp only [hl183000_63]); (try simp only [hl189000_92]); (with_reducible repeat (first | apply Kd.R_alloc | apply Kd.R_drewN | apply Kd.R_drew)); exact HO_213000.out⟩, ⟨by (try simp only [hl183000_63]); (try simp only [hl189000_92]); (with_reducible repeat (first | refine blk_drewN ?_ _ | refine blk_drew ?_ | refine blk_alloc ?_ _)); exact BK164.out⟩, ⟨by (try simp only [hl183000_63]); (try simp only [hl189000_92]); (with_reducible repeat (first | refine blk_drewN ?_ _ | refine blk_drew ?_ | refine blk_alloc ?_ _)); exact BK176.out⟩, ⟨by (try simp only [hl183000_63]); (try simp only [hl189000_92]); (with_reducible repeat (first | refine blk_drewN ?_ _ | refine blk_drew ?_ | refine blk_alloc ?_ _)); exact BK182.out⟩, ⟨by (try simp only [hl183000_63]); (try simp only [hl189000_92]); (with_reducible repeat (first | refine blk_drewN ?_ _ | refine blk_drew ?_ | refine blk_alloc ?_ _)); exact BK188.out⟩, ⟨by (try simp only [hl183000_63]); (try simp only [hl189000_92]); (with_reducible repeat (first | refine blk_drewN ?_ _ | refine blk_drew ?_ | refine blk_alloc ?_ _)); exact BK212.out⟩, ⟨by repeat (first | (with_reducible first | exact HB.out | apply below_alloc | apply pw_below_drewN | apply below_drew1 | refine below_set ?_ GE164.out | refine below_set ?_ GE176.out | refine below_set ?_ GE182.out | refine below_set ?_ GE188.out | refine below_set ?_ GE212.out) | exact HB.out)⟩⟩
                                      case rest =>
                                        clear HC143
                                        try clear c1
                                        try clear c2
                                        try clear p2
                                        try clear c3
                                        try clear c4
                                        try clear c5
                                        try clear c6
                                        try clear c7
                                        try clear c7b0
                                        try clear c8
                                        try clear c9
                                        try clear c10
                                        try clear c11
                                        try clear c12
                                        try clear c13
                                        try clear c14
                                        try clear c15
                                        try clear c16
                                        try clear c17
                                        try clear c18
                                        try clear c19
                                        try clear c20
                                        try clear c21
                                        try clear c22
                                        try clear c23
                                        try clear c25
                                        try clear c26
                                        try clear c31
                                        try clear c32
                                        try clear c33
                                        try clear c36
                                        try clear c37
                                        try clear c38
                                        try clear c39
                                        try clear c41
                                        try clear c42
                                        try clear c45
                                        try clear c46
                                        try clear c47
                                        try clear c49
                                        try clear c50
                                        try clear c54
                                        try clear c62
                                        try clear c65
                                        try clear c66
                                        try clear c67
                                        try clear c70
                                        try clear c70b0
                                        try clear c72
                                        try clear c73
                                        try clear c74
                                        try clear c75
                                        try clear c77
                                        try clear c78
                                        try clear c81
                                        try clear c82
                                        try clear c83
                                        try clear c85
                                        try clear c86
                                        try clear c90
                                        try clear c94
                                        try clear c95
                                        try clear c96
                                        try clear c101
                                        try clear c101b0
                                        try clear c103
                                        try clear c103b0
                                        try clear c103b1
                                        try clear c107
                                        try clear c108
                                        try clear c109
                                        try clear c116
                                        try clear c117
                                        try clear c118
                                        try clear c119
                                        try clear c122
                                        try clear c123
                                        try clear c124
                                        try clear c125
                                        try clear c126
                                        try clear c128
                                        try clear c129
                                        try clear c130
                                        try clear c133
                                        try clear c134
                                        try clear c135
                                        try clear c136
                                        try clear c138
                                        try clear c139
                                        try clear c140
                                        try clear c144
                                        try clear hcz110_0
                                        try clear hcz110_1
                                        try clear hcz110_2
                                        try clear hcz120_0
                                        try clear hcz120_1
                                        try clear hcz127_0
                                        try clear hcz127_1
                                        try clear hcz131_0
                                        try clear hcz131_1
                                        try clear hcz137_0
                                        try clear hcz137_1
                                        try clear hcz13_0
                                        try clear hcz13_1
                                        try clear hcz13_2
                                        try clear hcz141_0
                                        try clear hcz141_1
                                        try clear hcz20_0
                                        try clear hcz20_1
                                        try clear hcz21_0
                                        try clear hcz21_1
                                        try clear hcz21_2
                                        try clear hcz27_0
                                        try clear hcz27_1
                                        try clear hcz27_2
                                        try clear hcz34_0
                                        try clear hcz34_1
                                        try clear hcz40_0
                                        try clear hcz40_1
                                        try clear hcz43_0
                                        try clear hcz43_1
                                        try clear hcz48_0
                                        try clear hcz48_1
                                        try clear hcz51_0
                                        try clear hcz51_1
                                        try clear hcz5_0
                                        try clear hcz5_1
                                        try clear hcz5_2
                                        try clear hcz68_0
                                        try clear hcz68_1
                                        try clear hcz68_2
                                        try clear hcz76_0
                                        try clear hcz76_1
                                        try clear hcz79_0
                                        try clear hcz79_1
                                        try clear hcz84_0
                                        try clear hcz84_1
                                        try clear hcz87_0
                                        try clear hcz87_1
                                        try clear hcz97_0
                                        try clear hcz97_1
                                        try clear hcz99_0
                                        try clear hcz99_1
                                        try clear hfz110_0
                                        try clear hfz110_1
                                        try clear hfz110_2
                                        try clear hfz120_0
                                        try clear hfz120_1
                                        try clear hfz127_0
                                        try clear hfz127_1
                                        try clear hfz131_0
                                        try clear hfz131_1
                                        try clear hfz137_0
                                        try clear hfz137_1
                                        try clear hfz13_0
                                        try clear hfz13_1
                                        try clear hfz13_2
                                        try clear hfz141_0
                                        try clear hfz141_1
                                        try clear hfz20_0
                                        try clear hfz20_1
                                        try clear hfz21_0
                                        try clear hfz21_1
                                        try clear hfz21_2
                                        try clear hfz27_0
                                        try clear hfz27_1
                                        try clear hfz27_2
                                        try clear hfz34_0
                                        try clear hfz34_1
                                        try clear hfz40_0
                                        try clear hfz40_1
                                        try clear hfz43_0
                                        try clear hfz43_1
                                        try clear hfz48_0
                                        try clear hfz48_1
                                        try clear hfz51_0
                                        try clear hfz51_1
                                        try clear hfz5_0
                                        try clear hfz5_1
                                        try clear hfz5_2
                                        try clear hfz68_0
                                        try clear hfz68_1
                                        try clear hfz68_2
                                        try clear hfz76_0
                                        try clear hfz76_1
                                        try clear hfz79_0
                                        try clear hfz79_1
                                        try clear hfz84_0
                                        try clear hfz84_1
                                        try clear hfz87_0
                                        try clear hfz87_1
                                        try clear hfz97_0
                                        try clear hfz97_1
                                        try clear hfz99_0
                                        try clear hfz99_1
                                        try clear p2
                                        obtain ⟨kq, HA, HJ142, HO_177000, HO_183000, HO_189000, HO_213000, BK164, BK176, BK182, BK188, BK212, HB⟩ := hcut
                                        cases kq with
                                        | zero => exact absurd HA.out (by simp [laws_FnExactFirstCamp.j9])
                                        | succ kj142 =>
                                          have H := HA.out
                                          clear HA
                                          simp only [laws_FnExactFirstCamp.j9] at H
                                          replace H := Option.bind_eq_some_iff.mp H
                                          obtain ⟨t214, A1450, H⟩ := H
                                          replace H : (if t214 < 0 then (some false) else (if t214 = t199 then (some true) else (some false))) = some r := H
                                          have A145 := Aside0.mk A1450
                                          clear A1450
                                          by_cases c146 : t214 < 0
                                          · rw [if_pos c146] at H
                                            have c146b0 : decide (t214 < 0) = true := decide_eq_true c146
                                            clear c146
                                            obtain rfl := Option.some.inj H
                                            have hnb147 := NB188_164.out
                                            have hnc147 := NB164_188.out
                                            have hnb148 := NB188_176.out
                                            have hnc148 := NB176_188.out
                                            have hnb149 := NB188_182.out
                                            have hnc149 := NB182_188.out
                                            have hnb150 := NB188_212.out
                                            have hnc150 := NB212_188.out
                                            have hcz151_0 : wc.cell? ⟨gb188, 0, none⟩ = some (.slice Ao30 t200.length co30) := (blk_cell BK188.out 0).trans rfl
                                            have hcz151_1 : wc.cell? ⟨gb188, 1, none⟩ = some (.int .i64 t186) := (blk_cell BK188.out 1).trans rfl
                                            have hfz151_0 := blk_frozen BK188.out 0
                                            have hfz151_1 := blk_frozen BK188.out 1
                                            go_wp2_with (first | ((with_reducible refine gate_callee (f := 23) rfl ?_); refine goesL_ (some 90) rfl rfl Try.func23 (by kernel_rfl) rfl #[.agg #[.slice Ao30 t200.length co30, .int .i64 t186], .int .i64 1] rfl (by (try simp only [List.map_toArray, List.map_cons, List.map_nil]); first | done | rfl | (simp only [List.length_drop, List.length_take]; rfl)) ?_; (with_reducible refine (laws_heldCamp.calls kj142 _ _ t200 t186 1 t214 _ ?side1 ?side2 A145.out).mono ?_); (case side1 => repeat (first | exact (Kd.R_reads' HO_189000.out).2.2 | (with_reducible refine Kd.C_alloc ?_ _) | (with_reducible refine Kd.C_drewN ?_ _) | (with_reducible refine Kd.C_drew ?_))); (case side2 => exact (Kd.R_reads' HO_189000.out).2.1); rintro e w152 ⟨rfl, hb⟩; refine ⟨_, rfl, ?_⟩; have n0_ := Aside0.mk (Kd.R_below (by (with_reducible repeat (first | apply Kd.R_alloc | apply Kd.R_drewN | apply Kd.R_drew)); exact HO_177000.out) hb); have n1_ := Aside0.mk (Kd.R_below (by (with_reducible repeat (first | apply Kd.R_alloc | apply Kd.R_drewN | apply Kd.R_drew)); exact HO_183000.out) hb); have n2_ := Aside0.mk (Kd.R_below (by (with_reducible repeat (first | apply Kd.R_alloc | apply Kd.R_drewN | apply Kd.R_drew)); exact HO_189000.out) hb); have n3_ := Aside0.mk (Kd.R_below (by (with_reducible repeat (first | apply Kd.R_alloc | apply Kd.R_drewN | apply Kd.R_drew)); exact HO_213000.out) hb); have n4_ := Aside0.mk (blk_below (g := gb164) (o := .cells #[.slice A0_0 l0_0.length c0_0, .int .i64 a0_1, .int .i64 a0_2] 24 (0, 0)) (by (with_reducible repeat (first | refine blk_drewN ?_ _ | refine blk_drew ?_ | refine blk_alloc ?_ _)); exact BK164.out) hb); have n5_ := Aside0.mk (blk_below (g := gb176) (o := .cells #[.slice Ao18 t171.length co18, .int .i64 t174] 28 (0, 0)) (by (with_reducible repeat (first | refine blk_drewN ?_ _ | refine blk_drew ?_ | refine blk_alloc ?_ _)); exact BK176.out) hb); have n6_ := Aside0.mk (blk_below (g := gb182) (o := .cells #[.slice Ao24 t197.length co24, .int .i64 t180, .int .i64 t181] 31 (0, 0)) (by (with_reducible repeat (first | refine blk_drewN ?_ _ | refine blk_drew ?_ | refine blk_alloc ?_ _)); exact BK182.out) hb); have n7_ := Aside0.mk (blk_below (g := gb188) (o := .cells #[.slice Ao30 t200.length co30, .int .i64 t186] 28 (0, 0)) (by (with_reducible repeat (first | refine blk_drewN ?_ _ | refine blk_drew ?_ | refine blk_alloc ?_ _)); exact BK188.out) hb); have n8_ := Aside0.mk (blk_below (g := gb212) (o := .cells #[.slice Ao115 t207.length co115, .int .i64 t210] 28 (0, 0)) (by (with_reducible repeat (first | refine blk_drewN ?_ _ | refine blk_drew ?_ | refine blk_alloc ?_ _)); exact BK212.out) hb); have n9_ := Aside0.mk (below_step (by repeat (first | (with_reducible first | exact HB.out | apply below_alloc | apply pw_below_drewN | apply below_drew1 | refine below_set ?_ GE164.out | refine below_set ?_ GE176.out | refine below_set ?_ GE182.out | refine below_set ?_ GE188.out | refine below_set ?_ GE212.out) | exact HB.out)) hb); clear HO_177000; clear HO_183000; clear HO_189000; clear HO_213000; clear BK164; clear BK176; clear BK182; clear BK188; clear BK212; clear HB; have HO_177000 := n0_; have HO_183000 := n1_; have HO_189000 := n2_; have HO_213000 := n3_; have BK164 := n4_; have BK176 := n5_; have BK182 := n6_; have BK188 := n7_; have BK212 := n8_; have HB := n9_; clear n0_ n1_ n2_ n3_ n4_ n5_ n6_ n7_ n8_ n9_; (try clear hb); (try clear hb2); (try clear hk); (try clear hi)))
                                            go_ret
                                            exact ⟨by first | rfl | (simp [errW_none, errW_some] <;> rfl) | (simp [*, errW_none, errW_some] <;> rfl), by repeat (first | (with_reducible first | exact HB.out | apply below_alloc | apply pw_below_drewN | apply below_drew1 | refine below_set ?_ GE164.out | refine below_set ?_ GE176.out | refine below_set ?_ GE182.out | refine below_set ?_ GE188.out | refine below_set ?_ GE212.out) | exact HB.out)⟩
                                          · rw [if_neg c146] at H
                                            have c146b0 : decide (t214 < 0) = false := decide_eq_false c146
                                            clear c146
                                            by_cases c153 : t214 = t199
                                            · rw [if_pos c153] at H
                                              have c153b0 : (t214 == t199) = true := beq_iff_eq.mpr c153
                                              have c153b1 : (t214 != t199) = false := bne_eq_false_iff_eq.mpr c153
                                              clear c153
                                              obtain rfl := Option.some.inj H
                                              have hnb154 := NB188_164.out
                                              have hnc154 := NB164_188.out
                                              have hnb155 := NB188_176.out
                                              have hnc155 := NB176_188.out
                                              have hnb156 := NB188_182.out
                                              have hnc156 := NB182_188.out
                                              have hnb157 := NB188_212.out
                                              have hnc157 := NB212_188.out
                                              have hcz158_0 : wc.cell? ⟨gb188, 0, none⟩ = some (.slice Ao30 t200.length co30) := (blk_cell BK188.out 0).trans rfl
                                              have hcz158_1 : wc.cell? ⟨gb188, 1, none⟩ = some (.int .i64 t186) := (blk_cell BK188.out 1).trans rfl
                                              have hfz158_0 := blk_frozen BK188.out 0
                                              have hfz158_1 := blk_frozen BK188.out 1
                                              go_wp2_with (first | ((with_reducible refine gate_callee (f := 23) rfl ?_); refine goesL_ (some 90) rfl rfl Try.func23 (by kernel_rfl) rfl #[.agg #[.slice Ao30 t200.length co30, .int .i64 t186], .int .i64 1] rfl (by (try simp only [List.map_toArray, List.map_cons, List.map_nil]); first | done | rfl | (simp only [List.length_drop, List.length_take]; rfl)) ?_; (with_reducible refine (laws_heldCamp.calls kj142 _ _ t200 t186 1 t214 _ ?side1 ?side2 A145.out).mono ?_); (case side1 => repeat (first | exact (Kd.R_reads' HO_189000.out).2.2 | (with_reducible refine Kd.C_alloc ?_ _) | (with_reducible refine Kd.C_drewN ?_ _) | (with_reducible refine Kd.C_drew ?_))); (case side2 => exact (Kd.R_reads' HO_189000.out).2.1); rintro e w159 ⟨rfl, hb⟩; refine ⟨_, rfl, ?_⟩; have n0_ := Aside0.mk (Kd.R_below (by (with_reducible repeat (first | apply Kd.R_alloc | apply Kd.R_drewN | apply Kd.R_drew)); exact HO_177000.out) hb); have n1_ := Aside0.mk (Kd.R_below (by (with_reducible repeat (first | apply Kd.R_alloc | apply Kd.R_drewN | apply Kd.R_drew)); exact HO_183000.out) hb); have n2_ := Aside0.mk (Kd.R_below (by (with_reducible repeat (first | apply Kd.R_alloc | apply Kd.R_drewN | apply Kd.R_drew)); exact HO_189000.out) hb); have n3_ := Aside0.mk (Kd.R_below (by (with_reducible repeat (first | apply Kd.R_alloc | apply Kd.R_drewN | apply Kd.R_drew)); exact HO_213000.out) hb); have n4_ := Aside0.mk (blk_below (g := gb164) (o := .cells #[.slice A0_0 l0_0.length c0_0, .int .i64 a0_1, .int .i64 a0_2] 24 (0, 0)) (by (with_reducible repeat (first | refine blk_drewN ?_ _ | refine blk_drew ?_ | refine blk_alloc ?_ _)); exact BK164.out) hb); have n5_ := Aside0.mk (blk_below (g := gb176) (o := .cells #[.slice Ao18 t171.length co18, .int .i64 t174] 28 (0, 0)) (by (with_reducible repeat (first | refine blk_drewN ?_ _ | refine blk_drew ?_ | refine blk_alloc ?_ _)); exact BK176.out) hb); have n6_ := Aside0.mk (blk_below (g := gb182) (o := .cells #[.slice Ao24 t197.length co24, .int .i64 t180, .int .i64 t181] 31 (0, 0)) (by (with_reducible repeat (first | refine blk_drewN ?_ _ | refine blk_drew ?_ | refine blk_alloc ?_ _)); exact BK182.out) hb); have n7_ := Aside0.mk (blk_below (g := gb188) (o := .cells #[.slice Ao30 t200.length co30, .int .i64 t186] 28 (0, 0)) (by (with_reducible repeat (first | refine blk_drewN ?_ _ | refine blk_drew ?_ | refine blk_alloc ?_ _)); exact BK188.out) hb); have n8_ := Aside0.mk (blk_below (g := gb212) (o := .cells #[.slice Ao115 t207.length co115, .int .i64 t210] 28 (0, 0)) (by (with_reducible repeat (first | refine blk_drewN ?_ _ | refine blk_drew ?_ | refine blk_alloc ?_ _)); exact BK212.out) hb); have n9_ := Aside0.mk (below_step (by repeat (first | (with_reducible first | exact HB.out | apply below_alloc | apply pw_below_drewN | apply below_drew1 | refine below_set ?_ GE164.out | refine below_set ?_ GE176.out | refine below_set ?_ GE182.out | refine below_set ?_ GE188.out | refine below_set ?_ GE212.out) | exact HB.out)) hb); clear HO_177000; clear HO_183000; clear HO_189000; clear HO_213000; clear BK164; clear BK176; clear BK182; clear BK188; clear BK212; clear HB; have HO_177000 := n0_; have HO_183000 := n1_; have HO_189000 := n2_; have HO_213000 := n3_; have BK164 := n4_; have BK176 := n5_; have BK182 := n6_; have BK188 := n7_; have BK212 := n8_; have HB := n9_; clear n0_ n1_ n2_ n3_ n4_ n5_ n6_ n7_ n8_ n9_; (try clear hb); (try clear hb2); (try clear hk); (try clear hi)))
                                              go_ret
                                              exact ⟨by first | rfl | (simp [errW_none, errW_some] <;> rfl) | (simp [*, errW_none, errW_some] <;> rfl), by repeat (first | (with_reducible first | exact HB.out | apply below_alloc | apply pw_below_drewN | apply below_drew1 | refine below_set ?_ GE164.out | refine below_set ?_ GE176.out | refine below_set ?_ GE182.out | refine below_set ?_ GE188.out | refine below_set ?_ GE212.out) | exact HB.out)⟩
                                            · rw [if_neg c153] at H
                                              have c153b0 : (t214 == t199) = false := beq_eq_false_iff_ne.mpr c153
                                              have c153b1 : (t214 != t199) = true := bne_iff_ne.mpr c153
                                              obtain rfl := Option.some.inj H
                                              have hnb160 := NB188_164.out
                                              have hnc160 := NB164_188.out
                                              have hnb161 := NB188_176.out
                                              have hnc161 := NB176_188.out
                                              have hnb162 := NB188_182.out
                                              have hnc162 := NB182_188.out
                                              have hnb163 := NB188_212.out
                                              have hnc163 := NB212_188.out
                                              have hcz164_0 : wc.cell? ⟨gb188, 0, none⟩ = some (.slice Ao30 t200.length co30) := (blk_cell BK188.out 0).trans rfl
                                              have hcz164_1 : wc.cell? ⟨gb188, 1, none⟩ = some (.int .i64 t186) := (blk_cell BK188.out 1).trans rfl
                                              have hfz164_0 := blk_frozen BK188.out 0
                                              have hfz164_1 := blk_frozen BK188.out 1
                                              go_wp2_with (first | ((with_reducible refine gate_callee (f := 23) rfl ?_); refine goesL_ (some 90) rfl rfl Try.func23 (by kernel_rfl) rfl #[.agg #[.slice Ao30 t200.length co30, .int .i64 t186], .int .i64 1] rfl (by (try simp only [List.map_toArray, List.map_cons, List.map_nil]); first | done | rfl | (simp only [List.length_drop, List.length_take]; rfl)) ?_; (with_reducible refine (laws_heldCamp.calls kj142 _ _ t200 t186 1 t214 _ ?side1 ?side2 A145.out).mono ?_); (case side1 => repeat (first | exact (Kd.R_reads' HO_189000.out).2.2 | (with_reducible refine Kd.C_alloc ?_ _) | (with_reducible refine Kd.C_drewN ?_ _) | (with_reducible refine Kd.C_drew ?_))); (case side2 => exact (Kd.R_reads' HO_189000.out).2.1); rintro e w165 ⟨rfl, hb⟩; refine ⟨_, rfl, ?_⟩; have n0_ := Aside0.mk (Kd.R_below (by (with_reducible repeat (first | apply Kd.R_alloc | apply Kd.R_drewN | apply Kd.R_drew)); exact HO_177000.out) hb); have n1_ := Aside0.mk (Kd.R_below (by (with_reducible repeat (first | apply Kd.R_alloc | apply Kd.R_drewN | apply Kd.R_drew)); exact HO_183000.out) hb); have n2_ := Aside0.mk (Kd.R_below (by (with_reducible repeat (first | apply Kd.R_alloc | apply Kd.R_drewN | apply Kd.R_drew)); exact HO_189000.out) hb); have n3_ := Aside0.mk (Kd.R_below (by (with_reducible repeat (first | apply Kd.R_alloc | apply Kd.R_drewN | apply Kd.R_drew)); exact HO_213000.out) hb); have n4_ := Aside0.mk (blk_below (g := gb164) (o := .cells #[.slice A0_0 l0_0.length c0_0, .int .i64 a0_1, .int .i64 a0_2] 24 (0, 0)) (by (with_reducible repeat (first | refine blk_drewN ?_ _ | refine blk_drew ?_ | refine blk_alloc ?_ _)); exact BK164.out) hb); have n5_ := Aside0.mk (blk_below (g := gb176) (o := .cells #[.slice Ao18 t171.length co18, .int .i64 t174] 28 (0, 0)) (by (with_reducible repeat (first | refine blk_drewN ?_ _ | refine blk_drew ?_ | refine blk_alloc ?_ _)); exact BK176.out) hb); have n6_ := Aside0.mk (blk_below (g := gb182) (o := .cells #[.slice Ao24 t197.length co24, .int .i64 t180, .int .i64 t181] 31 (0, 0)) (by (with_reducible repeat (first | refine blk_drewN ?_ _ | refine blk_drew ?_ | refine blk_alloc ?_ _)); exact BK182.out) hb); have n7_ := Aside0.mk (blk_below (g := gb188) (o := .cells #[.slice Ao30 t200.length co30, .int .i64 t186] 28 (0, 0)) (by (with_reducible repeat (first | refine blk_drewN ?_ _ | refine blk_drew ?_ | refine blk_alloc ?_ _)); exact BK188.out) hb); have n8_ := Aside0.mk (blk_below (g := gb212) (o := .cells #[.slice Ao115 t207.length co115, .int .i64 t210] 28 (0, 0)) (by (with_reducible repeat (first | refine blk_drewN ?_ _ | refine blk_drew ?_ | refine blk_alloc ?_ _)); exact BK212.out) hb); have n9_ := Aside0.mk (below_step (by repeat (first | (with_reducible first | exact HB.out | apply below_alloc | apply pw_below_drewN | apply below_drew1 | refine below_set ?_ GE164.out | refine below_set ?_ GE176.out | refine below_set ?_ GE182.out | refine below_set ?_ GE188.out | refine below_set ?_ GE212.out) | exact HB.out)) hb); clear HO_177000; clear HO_183000; clear HO_189000; clear HO_213000; clear BK164; clear BK176; clear BK182; clear BK188; clear BK212; clear HB; have HO_177000 := n0_; have HO_183000 := n1_; have HO_189000 := n2_; have HO_213000 := n3_; have BK164 := n4_; have BK176 := n5_; have BK182 := n6_; have BK188 := n7_; have BK212 := n8_; have HB := n9_; clear n0_ n1_ n2_ n3_ n4_ n5_ n6_ n7_ n8_ n9_; (try clear hb); (try clear hb2); (try clear hk); (try clear hi)))
                                              go_ret
                                              exact ⟨by first | rfl | (simp [errW_none, errW_some] <;> rfl) | (simp [*, errW_none, errW_some] <;> rfl), by repeat (first | (with_reducible first | exact HB.out | apply below_alloc | apply pw_below_drewN | apply below_drew1 | refine below_set ?_ GE164.out | refine below_set ?_ GE176.out | refine below_set ?_ GE182.out | refine below_set ?_ GE188.out | refine below_set ?_ GE212.out) | exact HB.out)⟩

end Go.Proofs.Ytpobeakggacdpaa.C1
