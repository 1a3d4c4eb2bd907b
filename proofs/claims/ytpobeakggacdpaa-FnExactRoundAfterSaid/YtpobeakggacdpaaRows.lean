/-
  No cell of these rows narrows 'for every input' (looked for: loops, veiled, ifaces, maps, wideKeys, modest, calm, conditions, laid).
  DERIVED. THE GIVEN ROWS OF THIS SEAT. 12 by the template 'for every input the law returns true; each argument reads behind the call as it read before'; 0 by the template 'total and deterministic' (their statements: YtpobeakggacdpaaTotals.lean).
  GIVEN WITH THE SEED: the statements are not yours to turn. If you find one false, say at which input.
  Laid BY PROGRAM, IN A SANDBOX (cutbox-rows.mjs): the forced cells as the released guide's own fill.sh prints them over the translation a7ada6a31bac44e5… (all of the seat's roots in one cut). By AI agents, Wed Nov 11 2026. No macro, syntax, notation, axiom, sorry.
-/
import Derived.Test.YtpobeakggacdpaaChecked
import GoSem.Claim
import GoSem.ClaimJoined
import GoSem.ClaimMapViews
import Derived.JoinedTies
import Derived.KernelRfl
namespace Go.Proofs.Ytpobeakggacdpaa
/- THE CELL 'sum', in the pinned program and in every row, IS THE sha256 OF THE DUMP (.gsa) THAT YtpobeakggacdpaaProg.lean LOADS. Nothing in Lean hashes anything: it is a label: what it is worth is what the hold of that sum in a sandbox is worth. -/
noncomputable def Try.pinned : Pinned := { name := "ytpobeakggacdpaa", sum := "a7ada6a31bac44e59bc5d642f09db6441354fffc1b44076e643462be4cc64793", checked := Try.checked }
namespace Rows
def none {H : Type} : Left H := { results := [], args := [] }

/-- 'laws.FnExactFirstCamp': WHATEVER THE INPUT: true; the input reads as it did. -/
def fnExactFirstCampSpec : ChangeSpec := { name := "fnExactFirstCamp", fn := fun _ => fun
  | [d] => { results := [.lit (.bool true)], args := [d] }
  | _ => none }
def fnExactFirstCampRow : OpenClaim := { program := "ytpobeakggacdpaa", sum := "a7ada6a31bac44e59bc5d642f09db6441354fffc1b44076e643462be4cc64793", func := "loop.example/g01272/laws.FnExactFirstCamp", spec := "fnExactFirstCamp", unfollowed := true, recurses := true, apart := false }
def FnExactFirstCampSaid : Prop := fnExactFirstCampRow.holds Try.pinned (OpenSpec.ofChange fnExactFirstCampSpec)

/-- ITS FALSE NEIGHBOUR: 'it returns false'. Refute it at one input. -/
def fnExactFirstCampWrong : ChangeSpec := { name := "fnExactFirstCamp", fn := fun _ => fun
  | [d] => { results := [.lit (.bool false)], args := [d] }
  | _ => none }
def FnExactFirstCampWrongFalsely : Prop := fnExactFirstCampRow.holds Try.pinned (OpenSpec.ofChange fnExactFirstCampWrong)

/-- 'laws.FnExactRoundTime': WHATEVER THE INPUT: true; the input reads as it did. -/
def fnExactRoundTimeSpec : ChangeSpec := { name := "fnExactRoundTime", fn := fun _ => fun
  | [d1, d2] => { results := [.lit (.bool true)], args := [d1, d2] }
  | _ => none }
def fnExactRoundTimeRow : OpenClaim := { program := "ytpobeakggacdpaa", sum := "a7ada6a31bac44e59bc5d642f09db6441354fffc1b44076e643462be4cc64793", func := "loop.example/g01272/laws.FnExactRoundTime", spec := "fnExactRoundTime", unfollowed := true, recurses := true, apart := false }
def FnExactRoundTimeSaid : Prop := fnExactRoundTimeRow.holds Try.pinned (OpenSpec.ofChange fnExactRoundTimeSpec)

/-- ITS FALSE NEIGHBOUR: 'it returns false'. Refute it at one input. -/
def fnExactRoundTimeWrong : ChangeSpec := { name := "fnExactRoundTime", fn := fun _ => fun
  | [d1, d2] => { results := [.lit (.bool false)], args := [d1, d2] }
  | _ => none }
def FnExactRoundTimeWrongFalsely : Prop := fnExactRoundTimeRow.holds Try.pinned (OpenSpec.ofChange fnExactRoundTimeWrong)

/-- 'laws.FnExactCanRound': WHATEVER THE INPUT: true; the input reads as it did. -/
def fnExactCanRoundSpec : ChangeSpec := { name := "fnExactCanRound", fn := fun _ => fun
  | [d1, d2, d3] => { results := [.lit (.bool true)], args := [d1, d2, d3] }
  | _ => none }
def fnExactCanRoundRow : OpenClaim := { program := "ytpobeakggacdpaa", sum := "a7ada6a31bac44e59bc5d642f09db6441354fffc1b44076e643462be4cc64793", func := "loop.example/g01272/laws.FnExactCanRound", spec := "fnExactCanRound", unfollowed := true, recurses := true, apart := false }
def FnExactCanRoundSaid : Prop := fnExactCanRoundRow.holds Try.pinned (OpenSpec.ofChange fnExactCanRoundSpec)

/-- ITS FALSE NEIGHBOUR: 'it returns false'. Refute it at one input. -/
def fnExactCanRoundWrong : ChangeSpec := { name := "fnExactCanRound", fn := fun _ => fun
  | [d1, d2, d3] => { results := [.lit (.bool false)], args := [d1, d2, d3] }
  | _ => none }
def FnExactCanRoundWrongFalsely : Prop := fnExactCanRoundRow.holds Try.pinned (OpenSpec.ofChange fnExactCanRoundWrong)

/-- 'laws.FnExactIsNightPlan': WHATEVER THE INPUT: true; the input reads as it did. -/
def fnExactIsNightPlanSpec : ChangeSpec := { name := "fnExactIsNightPlan", fn := fun _ => fun
  | [d1, d2] => { results := [.lit (.bool true)], args := [d1, d2] }
  | _ => none }
def fnExactIsNightPlanRow : OpenClaim := { program := "ytpobeakggacdpaa", sum := "a7ada6a31bac44e59bc5d642f09db6441354fffc1b44076e643462be4cc64793", func := "loop.example/g01272/laws.FnExactIsNightPlan", spec := "fnExactIsNightPlan", unfollowed := true, recurses := true, apart := false }
def FnExactIsNightPlanSaid : Prop := fnExactIsNightPlanRow.holds Try.pinned (OpenSpec.ofChange fnExactIsNightPlanSpec)

/-- ITS FALSE NEIGHBOUR: 'it returns false'. Refute it at one input. -/
def fnExactIsNightPlanWrong : ChangeSpec := { name := "fnExactIsNightPlan", fn := fun _ => fun
  | [d1, d2] => { results := [.lit (.bool false)], args := [d1, d2] }
  | _ => none }
def FnExactIsNightPlanWrongFalsely : Prop := fnExactIsNightPlanRow.holds Try.pinned (OpenSpec.ofChange fnExactIsNightPlanWrong)

/-- 'laws.FnExactRoundAfter': WHATEVER THE INPUT: true; the input reads as it did. -/
def fnExactRoundAfterSpec : ChangeSpec := { name := "fnExactRoundAfter", fn := fun _ => fun
  | [d1, d2, d3] => { results := [.lit (.bool true)], args := [d1, d2, d3] }
  | _ => none }
def fnExactRoundAfterRow : OpenClaim := { program := "ytpobeakggacdpaa", sum := "a7ada6a31bac44e59bc5d642f09db6441354fffc1b44076e643462be4cc64793", func := "loop.example/g01272/laws.FnExactRoundAfter", spec := "fnExactRoundAfter", unfollowed := true, recurses := true, apart := false }
def FnExactRoundAfterSaid : Prop := fnExactRoundAfterRow.holds Try.pinned (OpenSpec.ofChange fnExactRoundAfterSpec)

/-- ITS FALSE NEIGHBOUR: 'it returns false'. Refute it at one input. -/
def fnExactRoundAfterWrong : ChangeSpec := { name := "fnExactRoundAfter", fn := fun _ => fun
  | [d1, d2, d3] => { results := [.lit (.bool false)], args := [d1, d2, d3] }
  | _ => none }
def FnExactRoundAfterWrongFalsely : Prop := fnExactRoundAfterRow.holds Try.pinned (OpenSpec.ofChange fnExactRoundAfterWrong)

/-- 'laws.FnExactNightTime': WHATEVER THE INPUT: true; the input reads as it did. -/
def fnExactNightTimeSpec : ChangeSpec := { name := "fnExactNightTime", fn := fun _ => fun
  | [d1, d2] => { results := [.lit (.bool true)], args := [d1, d2] }
  | _ => none }
def fnExactNightTimeRow : OpenClaim := { program := "ytpobeakggacdpaa", sum := "a7ada6a31bac44e59bc5d642f09db6441354fffc1b44076e643462be4cc64793", func := "loop.example/g01272/laws.FnExactNightTime", spec := "fnExactNightTime", unfollowed := true, recurses := true, apart := false }
def FnExactNightTimeSaid : Prop := fnExactNightTimeRow.holds Try.pinned (OpenSpec.ofChange fnExactNightTimeSpec)

/-- ITS FALSE NEIGHBOUR: 'it returns false'. Refute it at one input. -/
def fnExactNightTimeWrong : ChangeSpec := { name := "fnExactNightTime", fn := fun _ => fun
  | [d1, d2] => { results := [.lit (.bool false)], args := [d1, d2] }
  | _ => none }
def FnExactNightTimeWrongFalsely : Prop := fnExactNightTimeRow.holds Try.pinned (OpenSpec.ofChange fnExactNightTimeWrong)

/-- 'laws.FnExactRoundsAfter': WHATEVER THE INPUT: true; the input reads as it did. -/
def fnExactRoundsAfterSpec : ChangeSpec := { name := "fnExactRoundsAfter", fn := fun _ => fun
  | [d1, d2, d3] => { results := [.lit (.bool true)], args := [d1, d2, d3] }
  | _ => none }
def fnExactRoundsAfterRow : OpenClaim := { program := "ytpobeakggacdpaa", sum := "a7ada6a31bac44e59bc5d642f09db6441354fffc1b44076e643462be4cc64793", func := "loop.example/g01272/laws.FnExactRoundsAfter", spec := "fnExactRoundsAfter", unfollowed := true, recurses := true, apart := false }
def FnExactRoundsAfterSaid : Prop := fnExactRoundsAfterRow.holds Try.pinned (OpenSpec.ofChange fnExactRoundsAfterSpec)

/-- ITS FALSE NEIGHBOUR: 'it returns false'. Refute it at one input. -/
def fnExactRoundsAfterWrong : ChangeSpec := { name := "fnExactRoundsAfter", fn := fun _ => fun
  | [d1, d2, d3] => { results := [.lit (.bool false)], args := [d1, d2, d3] }
  | _ => none }
def FnExactRoundsAfterWrongFalsely : Prop := fnExactRoundsAfterRow.holds Try.pinned (OpenSpec.ofChange fnExactRoundsAfterWrong)

/-- 'laws.FnExactTripsOf': WHATEVER THE INPUT: true; the input reads as it did. -/
def fnExactTripsOfSpec : ChangeSpec := { name := "fnExactTripsOf", fn := fun _ => fun
  | [d1, d2] => { results := [.lit (.bool true)], args := [d1, d2] }
  | _ => none }
def fnExactTripsOfRow : OpenClaim := { program := "ytpobeakggacdpaa", sum := "a7ada6a31bac44e59bc5d642f09db6441354fffc1b44076e643462be4cc64793", func := "loop.example/g01272/laws.FnExactTripsOf", spec := "fnExactTripsOf", unfollowed := true, recurses := true, apart := false }
def FnExactTripsOfSaid : Prop := fnExactTripsOfRow.holds Try.pinned (OpenSpec.ofChange fnExactTripsOfSpec)

/-- ITS FALSE NEIGHBOUR: 'it returns false'. Refute it at one input. -/
def fnExactTripsOfWrong : ChangeSpec := { name := "fnExactTripsOf", fn := fun _ => fun
  | [d1, d2] => { results := [.lit (.bool false)], args := [d1, d2] }
  | _ => none }
def FnExactTripsOfWrongFalsely : Prop := fnExactTripsOfRow.holds Try.pinned (OpenSpec.ofChange fnExactTripsOfWrong)

/-- 'laws.FnExactIsPlan': WHATEVER THE INPUT: true; the input reads as it did. -/
def fnExactIsPlanSpec : ChangeSpec := { name := "fnExactIsPlan", fn := fun _ => fun
  | [d1, d2] => { results := [.lit (.bool true)], args := [d1, d2] }
  | _ => none }
def fnExactIsPlanRow : OpenClaim := { program := "ytpobeakggacdpaa", sum := "a7ada6a31bac44e59bc5d642f09db6441354fffc1b44076e643462be4cc64793", func := "loop.example/g01272/laws.FnExactIsPlan", spec := "fnExactIsPlan", unfollowed := true, recurses := true, apart := false }
def FnExactIsPlanSaid : Prop := fnExactIsPlanRow.holds Try.pinned (OpenSpec.ofChange fnExactIsPlanSpec)

/-- ITS FALSE NEIGHBOUR: 'it returns false'. Refute it at one input. -/
def fnExactIsPlanWrong : ChangeSpec := { name := "fnExactIsPlan", fn := fun _ => fun
  | [d1, d2] => { results := [.lit (.bool false)], args := [d1, d2] }
  | _ => none }
def FnExactIsPlanWrongFalsely : Prop := fnExactIsPlanRow.holds Try.pinned (OpenSpec.ofChange fnExactIsPlanWrong)

/-- 'laws.FnExactPlanTime': WHATEVER THE INPUT: true; the input reads as it did. -/
def fnExactPlanTimeSpec : ChangeSpec := { name := "fnExactPlanTime", fn := fun _ => fun
  | [d1, d2] => { results := [.lit (.bool true)], args := [d1, d2] }
  | _ => none }
def fnExactPlanTimeRow : OpenClaim := { program := "ytpobeakggacdpaa", sum := "a7ada6a31bac44e59bc5d642f09db6441354fffc1b44076e643462be4cc64793", func := "loop.example/g01272/laws.FnExactPlanTime", spec := "fnExactPlanTime", unfollowed := true, recurses := true, apart := false }
def FnExactPlanTimeSaid : Prop := fnExactPlanTimeRow.holds Try.pinned (OpenSpec.ofChange fnExactPlanTimeSpec)

/-- ITS FALSE NEIGHBOUR: 'it returns false'. Refute it at one input. -/
def fnExactPlanTimeWrong : ChangeSpec := { name := "fnExactPlanTime", fn := fun _ => fun
  | [d1, d2] => { results := [.lit (.bool false)], args := [d1, d2] }
  | _ => none }
def FnExactPlanTimeWrongFalsely : Prop := fnExactPlanTimeRow.holds Try.pinned (OpenSpec.ofChange fnExactPlanTimeWrong)

/-- 'laws.FnExactBackPlan': WHATEVER THE INPUT: true; the input reads as it did. -/
def fnExactBackPlanSpec : ChangeSpec := { name := "fnExactBackPlan", fn := fun _ => fun
  | [d1, d2] => { results := [.lit (.bool true)], args := [d1, d2] }
  | _ => none }
def fnExactBackPlanRow : OpenClaim := { program := "ytpobeakggacdpaa", sum := "a7ada6a31bac44e59bc5d642f09db6441354fffc1b44076e643462be4cc64793", func := "loop.example/g01272/laws.FnExactBackPlan", spec := "fnExactBackPlan", unfollowed := true, recurses := true, apart := false }
def FnExactBackPlanSaid : Prop := fnExactBackPlanRow.holds Try.pinned (OpenSpec.ofChange fnExactBackPlanSpec)

/-- ITS FALSE NEIGHBOUR: 'it returns false'. Refute it at one input. -/
def fnExactBackPlanWrong : ChangeSpec := { name := "fnExactBackPlan", fn := fun _ => fun
  | [d1, d2] => { results := [.lit (.bool false)], args := [d1, d2] }
  | _ => none }
def FnExactBackPlanWrongFalsely : Prop := fnExactBackPlanRow.holds Try.pinned (OpenSpec.ofChange fnExactBackPlanWrong)

/-- 'laws.FnExactTimesWalked': WHATEVER THE INPUT: true; the input reads as it did. -/
def fnExactTimesWalkedSpec : ChangeSpec := { name := "fnExactTimesWalked", fn := fun _ => fun
  | [d1, d2] => { results := [.lit (.bool true)], args := [d1, d2] }
  | _ => none }
def fnExactTimesWalkedRow : OpenClaim := { program := "ytpobeakggacdpaa", sum := "a7ada6a31bac44e59bc5d642f09db6441354fffc1b44076e643462be4cc64793", func := "loop.example/g01272/laws.FnExactTimesWalked", spec := "fnExactTimesWalked", unfollowed := true, recurses := true, apart := false }
def FnExactTimesWalkedSaid : Prop := fnExactTimesWalkedRow.holds Try.pinned (OpenSpec.ofChange fnExactTimesWalkedSpec)

/-- ITS FALSE NEIGHBOUR: 'it returns false'. Refute it at one input. -/
def fnExactTimesWalkedWrong : ChangeSpec := { name := "fnExactTimesWalked", fn := fun _ => fun
  | [d1, d2] => { results := [.lit (.bool false)], args := [d1, d2] }
  | _ => none }
def FnExactTimesWalkedWrongFalsely : Prop := fnExactTimesWalkedRow.holds Try.pinned (OpenSpec.ofChange fnExactTimesWalkedWrong)

/- THE SECOND FORM. 'bulk': how many values and letters a reading holds, each counted each time it is reached (what is shared counts as often as it is met; a slice's spare places count too). A statement '..UptoSaid' is the law's where the arguments, and the package variables that the reading takes, are together of bulk at most 1048576: NARROWER than '..Said'. Prove '..Said' where nothing that the law and all that it calls make is longer than what came in: it says more and counts as full. Else prove '..UptoSaid'. A law counts once. -/
mutual
def uptoBulk {H : Type} : DataW H → Nat
  | .lit (.string bytes) => bytes.length + 1
  | .lit _ => 1
  | .nil => 1
  | .ptr d => uptoBulk d + 1
  | .slice elems spare => uptoBulkAll elems + uptoBulkAll spare + 1
  | .agg parts => uptoBulkAll parts + 1
  | .iface _ d => uptoBulk d + 1
  | .map entries => uptoBulkEntries entries + 1
  | .held _ => 1
def uptoBulkAll {H : Type} : List (DataW H) → Nat
  | [] => 0
  | d :: r => uptoBulk d + uptoBulkAll r
def uptoBulkEntries {H : Type} : List (Lit × DataW H) → Nat
  | [] => 0
  | x :: r => uptoBulkEntry x + uptoBulkEntries r
def uptoBulkEntry {H : Type} : Lit × DataW H → Nat
  | (.string bytes, d) => bytes.length + uptoBulk d + 1
  | (_, d) => uptoBulk d + 1
 end
def uptoSmall : (H : Type) → List (DataW H) → Bool := fun _ ds => decide (uptoBulkAll ds ≤ 1048576)
def OpenSpec.upto (s : _root_.Go.ChangeSpec) : _root_.Go.OpenSpec := { _root_.Go.OpenSpec.ofChange s with cond := some uptoSmall }

/-- 'laws.FnExactFirstCamp', WHERE WHAT IT READS IS OF BULK AT MOST 1048576: true; the input reads as it did. -/
def fnExactFirstCampUptoRow : OpenClaim := { program := "ytpobeakggacdpaa", sum := "a7ada6a31bac44e59bc5d642f09db6441354fffc1b44076e643462be4cc64793", func := "loop.example/g01272/laws.FnExactFirstCamp", spec := "fnExactFirstCamp", unfollowed := true, recurses := true, apart := false, narrowed := true }
def FnExactFirstCampUptoSaid : Prop := fnExactFirstCampUptoRow.holds Try.pinned (OpenSpec.upto fnExactFirstCampSpec)

/-- 'laws.FnExactRoundTime', WHERE WHAT IT READS IS OF BULK AT MOST 1048576: true; the input reads as it did. -/
def fnExactRoundTimeUptoRow : OpenClaim := { program := "ytpobeakggacdpaa", sum := "a7ada6a31bac44e59bc5d642f09db6441354fffc1b44076e643462be4cc64793", func := "loop.example/g01272/laws.FnExactRoundTime", spec := "fnExactRoundTime", unfollowed := true, recurses := true, apart := false, narrowed := true }
def FnExactRoundTimeUptoSaid : Prop := fnExactRoundTimeUptoRow.holds Try.pinned (OpenSpec.upto fnExactRoundTimeSpec)

/-- 'laws.FnExactCanRound', WHERE WHAT IT READS IS OF BULK AT MOST 1048576: true; the input reads as it did. -/
def fnExactCanRoundUptoRow : OpenClaim := { program := "ytpobeakggacdpaa", sum := "a7ada6a31bac44e59bc5d642f09db6441354fffc1b44076e643462be4cc64793", func := "loop.example/g01272/laws.FnExactCanRound", spec := "fnExactCanRound", unfollowed := true, recurses := true, apart := false, narrowed := true }
def FnExactCanRoundUptoSaid : Prop := fnExactCanRoundUptoRow.holds Try.pinned (OpenSpec.upto fnExactCanRoundSpec)

/-- 'laws.FnExactIsNightPlan', WHERE WHAT IT READS IS OF BULK AT MOST 1048576: true; the input reads as it did. -/
def fnExactIsNightPlanUptoRow : OpenClaim := { program := "ytpobeakggacdpaa", sum := "a7ada6a31bac44e59bc5d642f09db6441354fffc1b44076e643462be4cc64793", func := "loop.example/g01272/laws.FnExactIsNightPlan", spec := "fnExactIsNightPlan", unfollowed := true, recurses := true, apart := false, narrowed := true }
def FnExactIsNightPlanUptoSaid : Prop := fnExactIsNightPlanUptoRow.holds Try.pinned (OpenSpec.upto fnExactIsNightPlanSpec)

/-- 'laws.FnExactRoundAfter', WHERE WHAT IT READS IS OF BULK AT MOST 1048576: true; the input reads as it did. -/
def fnExactRoundAfterUptoRow : OpenClaim := { program := "ytpobeakggacdpaa", sum := "a7ada6a31bac44e59bc5d642f09db6441354fffc1b44076e643462be4cc64793", func := "loop.example/g01272/laws.FnExactRoundAfter", spec := "fnExactRoundAfter", unfollowed := true, recurses := true, apart := false, narrowed := true }
def FnExactRoundAfterUptoSaid : Prop := fnExactRoundAfterUptoRow.holds Try.pinned (OpenSpec.upto fnExactRoundAfterSpec)

/-- 'laws.FnExactNightTime', WHERE WHAT IT READS IS OF BULK AT MOST 1048576: true; the input reads as it did. -/
def fnExactNightTimeUptoRow : OpenClaim := { program := "ytpobeakggacdpaa", sum := "a7ada6a31bac44e59bc5d642f09db6441354fffc1b44076e643462be4cc64793", func := "loop.example/g01272/laws.FnExactNightTime", spec := "fnExactNightTime", unfollowed := true, recurses := true, apart := false, narrowed := true }
def FnExactNightTimeUptoSaid : Prop := fnExactNightTimeUptoRow.holds Try.pinned (OpenSpec.upto fnExactNightTimeSpec)

/-- 'laws.FnExactRoundsAfter', WHERE WHAT IT READS IS OF BULK AT MOST 1048576: true; the input reads as it did. -/
def fnExactRoundsAfterUptoRow : OpenClaim := { program := "ytpobeakggacdpaa", sum := "a7ada6a31bac44e59bc5d642f09db6441354fffc1b44076e643462be4cc64793", func := "loop.example/g01272/laws.FnExactRoundsAfter", spec := "fnExactRoundsAfter", unfollowed := true, recurses := true, apart := false, narrowed := true }
def FnExactRoundsAfterUptoSaid : Prop := fnExactRoundsAfterUptoRow.holds Try.pinned (OpenSpec.upto fnExactRoundsAfterSpec)

/-- 'laws.FnExactTripsOf', WHERE WHAT IT READS IS OF BULK AT MOST 1048576: true; the input reads as it did. -/
def fnExactTripsOfUptoRow : OpenClaim := { program := "ytpobeakggacdpaa", sum := "a7ada6a31bac44e59bc5d642f09db6441354fffc1b44076e643462be4cc64793", func := "loop.example/g01272/laws.FnExactTripsOf", spec := "fnExactTripsOf", unfollowed := true, recurses := true, apart := false, narrowed := true }
def FnExactTripsOfUptoSaid : Prop := fnExactTripsOfUptoRow.holds Try.pinned (OpenSpec.upto fnExactTripsOfSpec)

/-- 'laws.FnExactIsPlan', WHERE WHAT IT READS IS OF BULK AT MOST 1048576: true; the input reads as it did. -/
def fnExactIsPlanUptoRow : OpenClaim := { program := "ytpobeakggacdpaa", sum := "a7ada6a31bac44e59bc5d642f09db6441354fffc1b44076e643462be4cc64793", func := "loop.example/g01272/laws.FnExactIsPlan", spec := "fnExactIsPlan", unfollowed := true, recurses := true, apart := false, narrowed := true }
def FnExactIsPlanUptoSaid : Prop := fnExactIsPlanUptoRow.holds Try.pinned (OpenSpec.upto fnExactIsPlanSpec)

/-- 'laws.FnExactPlanTime', WHERE WHAT IT READS IS OF BULK AT MOST 1048576: true; the input reads as it did. -/
def fnExactPlanTimeUptoRow : OpenClaim := { program := "ytpobeakggacdpaa", sum := "a7ada6a31bac44e59bc5d642f09db6441354fffc1b44076e643462be4cc64793", func := "loop.example/g01272/laws.FnExactPlanTime", spec := "fnExactPlanTime", unfollowed := true, recurses := true, apart := false, narrowed := true }
def FnExactPlanTimeUptoSaid : Prop := fnExactPlanTimeUptoRow.holds Try.pinned (OpenSpec.upto fnExactPlanTimeSpec)

/-- 'laws.FnExactBackPlan', WHERE WHAT IT READS IS OF BULK AT MOST 1048576: true; the input reads as it did. -/
def fnExactBackPlanUptoRow : OpenClaim := { program := "ytpobeakggacdpaa", sum := "a7ada6a31bac44e59bc5d642f09db6441354fffc1b44076e643462be4cc64793", func := "loop.example/g01272/laws.FnExactBackPlan", spec := "fnExactBackPlan", unfollowed := true, recurses := true, apart := false, narrowed := true }
def FnExactBackPlanUptoSaid : Prop := fnExactBackPlanUptoRow.holds Try.pinned (OpenSpec.upto fnExactBackPlanSpec)

/-- 'laws.FnExactTimesWalked', WHERE WHAT IT READS IS OF BULK AT MOST 1048576: true; the input reads as it did. -/
def fnExactTimesWalkedUptoRow : OpenClaim := { program := "ytpobeakggacdpaa", sum := "a7ada6a31bac44e59bc5d642f09db6441354fffc1b44076e643462be4cc64793", func := "loop.example/g01272/laws.FnExactTimesWalked", spec := "fnExactTimesWalked", unfollowed := true, recurses := true, apart := false, narrowed := true }
def FnExactTimesWalkedUptoSaid : Prop := fnExactTimesWalkedUptoRow.holds Try.pinned (OpenSpec.upto fnExactTimesWalkedSpec)

end Rows
end Go.Proofs.Ytpobeakggacdpaa
