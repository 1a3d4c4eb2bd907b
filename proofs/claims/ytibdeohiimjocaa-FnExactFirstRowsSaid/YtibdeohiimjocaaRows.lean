/-
  No cell of these rows narrows 'for every input' (looked for: loops, veiled, ifaces, maps, wideKeys, modest, calm, conditions, laid).
  DERIVED. THE GIVEN ROWS OF THIS SEAT. 11 by the template 'for every input the law returns true; each argument reads behind the call as it read before'; 0 by the template 'total and deterministic' (their statements: YtibdeohiimjocaaTotals.lean).
  GIVEN WITH THE SEED: the statements are not yours to turn. If you find one false, say at which input.
  Laid BY PROGRAM, IN A SANDBOX (cutbox-rows.mjs): the forced cells as the released guide's own fill.sh prints them over the translation f36acf243df3bb54… (all of the seat's roots in one cut). By AI agents, Wed Nov 11 2026. No macro, syntax, notation, axiom, sorry.
-/
import Derived.Test.YtibdeohiimjocaaChecked
import GoSem.Claim
import GoSem.ClaimJoined
import GoSem.ClaimMapViews
import Derived.JoinedTies
import Derived.KernelRfl
namespace Go.Proofs.Ytibdeohiimjocaa
/- THE CELL 'sum', in the pinned program and in every row, IS THE sha256 OF THE DUMP (.gsa) THAT YtibdeohiimjocaaProg.lean LOADS. Nothing in Lean hashes anything: it is a label: what it is worth is what the hold of that sum in a sandbox is worth. -/
noncomputable def Try.pinned : Pinned := { name := "ytibdeohiimjocaa", sum := "f36acf243df3bb549be82d752cbf51e7fe5d2a0caa137298cfe4f8f0a323464c", checked := Try.checked }
namespace Rows
def none {H : Type} : Left H := { results := [], args := [] }

/-- 'laws.FnExactFewestForGuards': WHATEVER THE INPUT: true; the input reads as it did. -/
def fnExactFewestForGuardsSpec : ChangeSpec := { name := "fnExactFewestForGuards", fn := fun _ => fun
  | [d1, d2, d3] => { results := [.lit (.bool true)], args := [d1, d2, d3] }
  | _ => none }
def fnExactFewestForGuardsRow : OpenClaim := { program := "ytibdeohiimjocaa", sum := "f36acf243df3bb549be82d752cbf51e7fe5d2a0caa137298cfe4f8f0a323464c", func := "loop.example/g01272/laws.FnExactFewestForGuards", spec := "fnExactFewestForGuards", unfollowed := true, recurses := true, apart := false }
def FnExactFewestForGuardsSaid : Prop := fnExactFewestForGuardsRow.holds Try.pinned (OpenSpec.ofChange fnExactFewestForGuardsSpec)

/-- ITS FALSE NEIGHBOUR: 'it returns false'. Refute it at one input. -/
def fnExactFewestForGuardsWrong : ChangeSpec := { name := "fnExactFewestForGuards", fn := fun _ => fun
  | [d1, d2, d3] => { results := [.lit (.bool false)], args := [d1, d2, d3] }
  | _ => none }
def FnExactFewestForGuardsWrongFalsely : Prop := fnExactFewestForGuardsRow.holds Try.pinned (OpenSpec.ofChange fnExactFewestForGuardsWrong)

/-- 'laws.FnExactSeatsForGuards': WHATEVER THE INPUT: true; the input reads as it did. -/
def fnExactSeatsForGuardsSpec : ChangeSpec := { name := "fnExactSeatsForGuards", fn := fun _ => fun
  | [d1, d2] => { results := [.lit (.bool true)], args := [d1, d2] }
  | _ => none }
def fnExactSeatsForGuardsRow : OpenClaim := { program := "ytibdeohiimjocaa", sum := "f36acf243df3bb549be82d752cbf51e7fe5d2a0caa137298cfe4f8f0a323464c", func := "loop.example/g01272/laws.FnExactSeatsForGuards", spec := "fnExactSeatsForGuards", unfollowed := true, recurses := true, apart := false }
def FnExactSeatsForGuardsSaid : Prop := fnExactSeatsForGuardsRow.holds Try.pinned (OpenSpec.ofChange fnExactSeatsForGuardsSpec)

/-- ITS FALSE NEIGHBOUR: 'it returns false'. Refute it at one input. -/
def fnExactSeatsForGuardsWrong : ChangeSpec := { name := "fnExactSeatsForGuards", fn := fun _ => fun
  | [d1, d2] => { results := [.lit (.bool false)], args := [d1, d2] }
  | _ => none }
def FnExactSeatsForGuardsWrongFalsely : Prop := fnExactSeatsForGuardsRow.holds Try.pinned (OpenSpec.ofChange fnExactSeatsForGuardsWrong)

/-- 'laws.FnExactFirstForGuards': WHATEVER THE INPUT: true; the input reads as it did. -/
def fnExactFirstForGuardsSpec : ChangeSpec := { name := "fnExactFirstForGuards", fn := fun _ => fun
  | [d1, d2, d3] => { results := [.lit (.bool true)], args := [d1, d2, d3] }
  | _ => none }
def fnExactFirstForGuardsRow : OpenClaim := { program := "ytibdeohiimjocaa", sum := "f36acf243df3bb549be82d752cbf51e7fe5d2a0caa137298cfe4f8f0a323464c", func := "loop.example/g01272/laws.FnExactFirstForGuards", spec := "fnExactFirstForGuards", unfollowed := true, recurses := true, apart := false }
def FnExactFirstForGuardsSaid : Prop := fnExactFirstForGuardsRow.holds Try.pinned (OpenSpec.ofChange fnExactFirstForGuardsSpec)

/-- ITS FALSE NEIGHBOUR: 'it returns false'. Refute it at one input. -/
def fnExactFirstForGuardsWrong : ChangeSpec := { name := "fnExactFirstForGuards", fn := fun _ => fun
  | [d1, d2, d3] => { results := [.lit (.bool false)], args := [d1, d2, d3] }
  | _ => none }
def FnExactFirstForGuardsWrongFalsely : Prop := fnExactFirstForGuardsRow.holds Try.pinned (OpenSpec.ofChange fnExactFirstForGuardsWrong)

/-- 'laws.FnGuardsOverOfAll': WHATEVER THE INPUT: true; the input reads as it did. -/
def fnGuardsOverOfAllSpec : ChangeSpec := { name := "fnGuardsOverOfAll", fn := fun _ => fun
  | [d1, d2, d3, d4, d5] => { results := [.lit (.bool true)], args := [d1, d2, d3, d4, d5] }
  | _ => none }
def fnGuardsOverOfAllRow : OpenClaim := { program := "ytibdeohiimjocaa", sum := "f36acf243df3bb549be82d752cbf51e7fe5d2a0caa137298cfe4f8f0a323464c", func := "loop.example/g01272/laws.FnGuardsOverOfAll", spec := "fnGuardsOverOfAll", unfollowed := true, recurses := true, apart := false }
def FnGuardsOverOfAllSaid : Prop := fnGuardsOverOfAllRow.holds Try.pinned (OpenSpec.ofChange fnGuardsOverOfAllSpec)

/-- ITS FALSE NEIGHBOUR: 'it returns false'. Refute it at one input. -/
def fnGuardsOverOfAllWrong : ChangeSpec := { name := "fnGuardsOverOfAll", fn := fun _ => fun
  | [d1, d2, d3, d4, d5] => { results := [.lit (.bool false)], args := [d1, d2, d3, d4, d5] }
  | _ => none }
def FnGuardsOverOfAllWrongFalsely : Prop := fnGuardsOverOfAllRow.holds Try.pinned (OpenSpec.ofChange fnGuardsOverOfAllWrong)

/-- 'laws.FnExactSeatsForCouples': WHATEVER THE INPUT: true; the input reads as it did. -/
def fnExactSeatsForCouplesSpec : ChangeSpec := { name := "fnExactSeatsForCouples", fn := fun _ => fun
  | [d] => { results := [.lit (.bool true)], args := [d] }
  | _ => none }
def fnExactSeatsForCouplesRow : OpenClaim := { program := "ytibdeohiimjocaa", sum := "f36acf243df3bb549be82d752cbf51e7fe5d2a0caa137298cfe4f8f0a323464c", func := "loop.example/g01272/laws.FnExactSeatsForCouples", spec := "fnExactSeatsForCouples", unfollowed := true, recurses := true, apart := false }
def FnExactSeatsForCouplesSaid : Prop := fnExactSeatsForCouplesRow.holds Try.pinned (OpenSpec.ofChange fnExactSeatsForCouplesSpec)

/-- ITS FALSE NEIGHBOUR: 'it returns false'. Refute it at one input. -/
def fnExactSeatsForCouplesWrong : ChangeSpec := { name := "fnExactSeatsForCouples", fn := fun _ => fun
  | [d] => { results := [.lit (.bool false)], args := [d] }
  | _ => none }
def FnExactSeatsForCouplesWrongFalsely : Prop := fnExactSeatsForCouplesRow.holds Try.pinned (OpenSpec.ofChange fnExactSeatsForCouplesWrong)

/-- 'laws.FnExactIsCalmPlan': WHATEVER THE INPUT: true; the input reads as it did. -/
def fnExactIsCalmPlanSpec : ChangeSpec := { name := "fnExactIsCalmPlan", fn := fun _ => fun
  | [d1, d2] => { results := [.lit (.bool true)], args := [d1, d2] }
  | _ => none }
def fnExactIsCalmPlanRow : OpenClaim := { program := "ytibdeohiimjocaa", sum := "f36acf243df3bb549be82d752cbf51e7fe5d2a0caa137298cfe4f8f0a323464c", func := "loop.example/g01272/laws.FnExactIsCalmPlan", spec := "fnExactIsCalmPlan", unfollowed := true, recurses := true, apart := false }
def FnExactIsCalmPlanSaid : Prop := fnExactIsCalmPlanRow.holds Try.pinned (OpenSpec.ofChange fnExactIsCalmPlanSpec)

/-- ITS FALSE NEIGHBOUR: 'it returns false'. Refute it at one input. -/
def fnExactIsCalmPlanWrong : ChangeSpec := { name := "fnExactIsCalmPlan", fn := fun _ => fun
  | [d1, d2] => { results := [.lit (.bool false)], args := [d1, d2] }
  | _ => none }
def FnExactIsCalmPlanWrongFalsely : Prop := fnExactIsCalmPlanRow.holds Try.pinned (OpenSpec.ofChange fnExactIsCalmPlanWrong)

/-- 'laws.FnExactCountCalmReached': WHATEVER THE INPUT: true; the input reads as it did. -/
def fnExactCountCalmReachedSpec : ChangeSpec := { name := "fnExactCountCalmReached", fn := fun _ => fun
  | [d] => { results := [.lit (.bool true)], args := [d] }
  | _ => none }
def fnExactCountCalmReachedRow : OpenClaim := { program := "ytibdeohiimjocaa", sum := "f36acf243df3bb549be82d752cbf51e7fe5d2a0caa137298cfe4f8f0a323464c", func := "loop.example/g01272/laws.FnExactCountCalmReached", spec := "fnExactCountCalmReached", unfollowed := true, recurses := true, apart := false }
def FnExactCountCalmReachedSaid : Prop := fnExactCountCalmReachedRow.holds Try.pinned (OpenSpec.ofChange fnExactCountCalmReachedSpec)

/-- ITS FALSE NEIGHBOUR: 'it returns false'. Refute it at one input. -/
def fnExactCountCalmReachedWrong : ChangeSpec := { name := "fnExactCountCalmReached", fn := fun _ => fun
  | [d] => { results := [.lit (.bool false)], args := [d] }
  | _ => none }
def FnExactCountCalmReachedWrongFalsely : Prop := fnExactCountCalmReachedRow.holds Try.pinned (OpenSpec.ofChange fnExactCountCalmReachedWrong)

/-- 'laws.FnExactFewestRows': WHATEVER THE INPUT: true; the input reads as it did. -/
def fnExactFewestRowsSpec : ChangeSpec := { name := "fnExactFewestRows", fn := fun _ => fun
  | [d] => { results := [.lit (.bool true)], args := [d] }
  | _ => none }
def fnExactFewestRowsRow : OpenClaim := { program := "ytibdeohiimjocaa", sum := "f36acf243df3bb549be82d752cbf51e7fe5d2a0caa137298cfe4f8f0a323464c", func := "loop.example/g01272/laws.FnExactFewestRows", spec := "fnExactFewestRows", unfollowed := true, recurses := true, apart := false }
def FnExactFewestRowsSaid : Prop := fnExactFewestRowsRow.holds Try.pinned (OpenSpec.ofChange fnExactFewestRowsSpec)

/-- ITS FALSE NEIGHBOUR: 'it returns false'. Refute it at one input. -/
def fnExactFewestRowsWrong : ChangeSpec := { name := "fnExactFewestRows", fn := fun _ => fun
  | [d] => { results := [.lit (.bool false)], args := [d] }
  | _ => none }
def FnExactFewestRowsWrongFalsely : Prop := fnExactFewestRowsRow.holds Try.pinned (OpenSpec.ofChange fnExactFewestRowsWrong)

/-- 'laws.FnExactRowsOf': WHATEVER THE INPUT: true; the input reads as it did. -/
def fnExactRowsOfSpec : ChangeSpec := { name := "fnExactRowsOf", fn := fun _ => fun
  | [d1, d2] => { results := [.lit (.bool true)], args := [d1, d2] }
  | _ => none }
def fnExactRowsOfRow : OpenClaim := { program := "ytibdeohiimjocaa", sum := "f36acf243df3bb549be82d752cbf51e7fe5d2a0caa137298cfe4f8f0a323464c", func := "loop.example/g01272/laws.FnExactRowsOf", spec := "fnExactRowsOf", unfollowed := true, recurses := true, apart := false }
def FnExactRowsOfSaid : Prop := fnExactRowsOfRow.holds Try.pinned (OpenSpec.ofChange fnExactRowsOfSpec)

/-- ITS FALSE NEIGHBOUR: 'it returns false'. Refute it at one input. -/
def fnExactRowsOfWrong : ChangeSpec := { name := "fnExactRowsOf", fn := fun _ => fun
  | [d1, d2] => { results := [.lit (.bool false)], args := [d1, d2] }
  | _ => none }
def FnExactRowsOfWrongFalsely : Prop := fnExactRowsOfRow.holds Try.pinned (OpenSpec.ofChange fnExactRowsOfWrong)

/-- 'laws.FnCouplesCalmOfAll': WHATEVER THE INPUT: true; the input reads as it did. -/
def fnCouplesCalmOfAllSpec : ChangeSpec := { name := "fnCouplesCalmOfAll", fn := fun _ => fun
  | [d1, d2, d3, d4, d5, d6, d7] => { results := [.lit (.bool true)], args := [d1, d2, d3, d4, d5, d6, d7] }
  | _ => none }
def fnCouplesCalmOfAllRow : OpenClaim := { program := "ytibdeohiimjocaa", sum := "f36acf243df3bb549be82d752cbf51e7fe5d2a0caa137298cfe4f8f0a323464c", func := "loop.example/g01272/laws.FnCouplesCalmOfAll", spec := "fnCouplesCalmOfAll", unfollowed := true, recurses := true, apart := false }
def FnCouplesCalmOfAllSaid : Prop := fnCouplesCalmOfAllRow.holds Try.pinned (OpenSpec.ofChange fnCouplesCalmOfAllSpec)

/-- ITS FALSE NEIGHBOUR: 'it returns false'. Refute it at one input. -/
def fnCouplesCalmOfAllWrong : ChangeSpec := { name := "fnCouplesCalmOfAll", fn := fun _ => fun
  | [d1, d2, d3, d4, d5, d6, d7] => { results := [.lit (.bool false)], args := [d1, d2, d3, d4, d5, d6, d7] }
  | _ => none }
def FnCouplesCalmOfAllWrongFalsely : Prop := fnCouplesCalmOfAllRow.holds Try.pinned (OpenSpec.ofChange fnCouplesCalmOfAllWrong)

/-- 'laws.FnExactFirstRows': WHATEVER THE INPUT: true; the input reads as it did. -/
def fnExactFirstRowsSpec : ChangeSpec := { name := "fnExactFirstRows", fn := fun _ => fun
  | [d] => { results := [.lit (.bool true)], args := [d] }
  | _ => none }
def fnExactFirstRowsRow : OpenClaim := { program := "ytibdeohiimjocaa", sum := "f36acf243df3bb549be82d752cbf51e7fe5d2a0caa137298cfe4f8f0a323464c", func := "loop.example/g01272/laws.FnExactFirstRows", spec := "fnExactFirstRows", unfollowed := true, recurses := true, apart := false }
def FnExactFirstRowsSaid : Prop := fnExactFirstRowsRow.holds Try.pinned (OpenSpec.ofChange fnExactFirstRowsSpec)

/-- ITS FALSE NEIGHBOUR: 'it returns false'. Refute it at one input. -/
def fnExactFirstRowsWrong : ChangeSpec := { name := "fnExactFirstRows", fn := fun _ => fun
  | [d] => { results := [.lit (.bool false)], args := [d] }
  | _ => none }
def FnExactFirstRowsWrongFalsely : Prop := fnExactFirstRowsRow.holds Try.pinned (OpenSpec.ofChange fnExactFirstRowsWrong)

/- THE SECOND FORM. 'bulk': how many values and letters a reading holds, each counted each time it is reached (what is shared counts as often as it is met; a slice's spare places count too). A statement '..UptoSaid' is the law's where the arguments, and the package variables that the reading takes, are together of bulk at most 1048576: NARROWER than '..Said'. Prove '..Said' where nothing that the law and all that it calls make is longer than what came in: it says more and counts as full. Else prove '..UptoSaid'. A law counts once. -/
mutual
def uptoBulk {H : Type} : DataW H → Nat
  | .lit (.string bytes) => bytes.length + 1
  | .lit _ => 1
  | .nil => 1
  | .ptr d => uptoBulk d + 1
  | .slice elems spare => uptoBulkAll elems + uptoBulkAll spare + 1
  | .agg parts => uptoBulkAll parts + 1
  | .iface _ d => uptoBulk d + 1
  | .map entries => uptoBulkEntries entries + 1
  | .held _ => 1
def uptoBulkAll {H : Type} : List (DataW H) → Nat
  | [] => 0
  | d :: r => uptoBulk d + uptoBulkAll r
def uptoBulkEntries {H : Type} : List (Lit × DataW H) → Nat
  | [] => 0
  | x :: r => uptoBulkEntry x + uptoBulkEntries r
def uptoBulkEntry {H : Type} : Lit × DataW H → Nat
  | (.string bytes, d) => bytes.length + uptoBulk d + 1
  | (_, d) => uptoBulk d + 1
 end
def uptoSmall : (H : Type) → List (DataW H) → Bool := fun _ ds => decide (uptoBulkAll ds ≤ 1048576)
def OpenSpec.upto (s : _root_.Go.ChangeSpec) : _root_.Go.OpenSpec := { _root_.Go.OpenSpec.ofChange s with cond := some uptoSmall }

/-- 'laws.FnExactFewestForGuards', WHERE WHAT IT READS IS OF BULK AT MOST 1048576: true; the input reads as it did. -/
def fnExactFewestForGuardsUptoRow : OpenClaim := { program := "ytibdeohiimjocaa", sum := "f36acf243df3bb549be82d752cbf51e7fe5d2a0caa137298cfe4f8f0a323464c", func := "loop.example/g01272/laws.FnExactFewestForGuards", spec := "fnExactFewestForGuards", unfollowed := true, recurses := true, apart := false, narrowed := true }
def FnExactFewestForGuardsUptoSaid : Prop := fnExactFewestForGuardsUptoRow.holds Try.pinned (OpenSpec.upto fnExactFewestForGuardsSpec)

/-- 'laws.FnExactSeatsForGuards', WHERE WHAT IT READS IS OF BULK AT MOST 1048576: true; the input reads as it did. -/
def fnExactSeatsForGuardsUptoRow : OpenClaim := { program := "ytibdeohiimjocaa", sum := "f36acf243df3bb549be82d752cbf51e7fe5d2a0caa137298cfe4f8f0a323464c", func := "loop.example/g01272/laws.FnExactSeatsForGuards", spec := "fnExactSeatsForGuards", unfollowed := true, recurses := true, apart := false, narrowed := true }
def FnExactSeatsForGuardsUptoSaid : Prop := fnExactSeatsForGuardsUptoRow.holds Try.pinned (OpenSpec.upto fnExactSeatsForGuardsSpec)

/-- 'laws.FnExactFirstForGuards', WHERE WHAT IT READS IS OF BULK AT MOST 1048576: true; the input reads as it did. -/
def fnExactFirstForGuardsUptoRow : OpenClaim := { program := "ytibdeohiimjocaa", sum := "f36acf243df3bb549be82d752cbf51e7fe5d2a0caa137298cfe4f8f0a323464c", func := "loop.example/g01272/laws.FnExactFirstForGuards", spec := "fnExactFirstForGuards", unfollowed := true, recurses := true, apart := false, narrowed := true }
def FnExactFirstForGuardsUptoSaid : Prop := fnExactFirstForGuardsUptoRow.holds Try.pinned (OpenSpec.upto fnExactFirstForGuardsSpec)

/-- 'laws.FnGuardsOverOfAll', WHERE WHAT IT READS IS OF BULK AT MOST 1048576: true; the input reads as it did. -/
def fnGuardsOverOfAllUptoRow : OpenClaim := { program := "ytibdeohiimjocaa", sum := "f36acf243df3bb549be82d752cbf51e7fe5d2a0caa137298cfe4f8f0a323464c", func := "loop.example/g01272/laws.FnGuardsOverOfAll", spec := "fnGuardsOverOfAll", unfollowed := true, recurses := true, apart := false, narrowed := true }
def FnGuardsOverOfAllUptoSaid : Prop := fnGuardsOverOfAllUptoRow.holds Try.pinned (OpenSpec.upto fnGuardsOverOfAllSpec)

/-- 'laws.FnExactSeatsForCouples', WHERE WHAT IT READS IS OF BULK AT MOST 1048576: true; the input reads as it did. -/
def fnExactSeatsForCouplesUptoRow : OpenClaim := { program := "ytibdeohiimjocaa", sum := "f36acf243df3bb549be82d752cbf51e7fe5d2a0caa137298cfe4f8f0a323464c", func := "loop.example/g01272/laws.FnExactSeatsForCouples", spec := "fnExactSeatsForCouples", unfollowed := true, recurses := true, apart := false, narrowed := true }
def FnExactSeatsForCouplesUptoSaid : Prop := fnExactSeatsForCouplesUptoRow.holds Try.pinned (OpenSpec.upto fnExactSeatsForCouplesSpec)

/-- 'laws.FnExactIsCalmPlan', WHERE WHAT IT READS IS OF BULK AT MOST 1048576: true; the input reads as it did. -/
def fnExactIsCalmPlanUptoRow : OpenClaim := { program := "ytibdeohiimjocaa", sum := "f36acf243df3bb549be82d752cbf51e7fe5d2a0caa137298cfe4f8f0a323464c", func := "loop.example/g01272/laws.FnExactIsCalmPlan", spec := "fnExactIsCalmPlan", unfollowed := true, recurses := true, apart := false, narrowed := true }
def FnExactIsCalmPlanUptoSaid : Prop := fnExactIsCalmPlanUptoRow.holds Try.pinned (OpenSpec.upto fnExactIsCalmPlanSpec)

/-- 'laws.FnExactCountCalmReached', WHERE WHAT IT READS IS OF BULK AT MOST 1048576: true; the input reads as it did. -/
def fnExactCountCalmReachedUptoRow : OpenClaim := { program := "ytibdeohiimjocaa", sum := "f36acf243df3bb549be82d752cbf51e7fe5d2a0caa137298cfe4f8f0a323464c", func := "loop.example/g01272/laws.FnExactCountCalmReached", spec := "fnExactCountCalmReached", unfollowed := true, recurses := true, apart := false, narrowed := true }
def FnExactCountCalmReachedUptoSaid : Prop := fnExactCountCalmReachedUptoRow.holds Try.pinned (OpenSpec.upto fnExactCountCalmReachedSpec)

/-- 'laws.FnExactFewestRows', WHERE WHAT IT READS IS OF BULK AT MOST 1048576: true; the input reads as it did. -/
def fnExactFewestRowsUptoRow : OpenClaim := { program := "ytibdeohiimjocaa", sum := "f36acf243df3bb549be82d752cbf51e7fe5d2a0caa137298cfe4f8f0a323464c", func := "loop.example/g01272/laws.FnExactFewestRows", spec := "fnExactFewestRows", unfollowed := true, recurses := true, apart := false, narrowed := true }
def FnExactFewestRowsUptoSaid : Prop := fnExactFewestRowsUptoRow.holds Try.pinned (OpenSpec.upto fnExactFewestRowsSpec)

/-- 'laws.FnExactRowsOf', WHERE WHAT IT READS IS OF BULK AT MOST 1048576: true; the input reads as it did. -/
def fnExactRowsOfUptoRow : OpenClaim := { program := "ytibdeohiimjocaa", sum := "f36acf243df3bb549be82d752cbf51e7fe5d2a0caa137298cfe4f8f0a323464c", func := "loop.example/g01272/laws.FnExactRowsOf", spec := "fnExactRowsOf", unfollowed := true, recurses := true, apart := false, narrowed := true }
def FnExactRowsOfUptoSaid : Prop := fnExactRowsOfUptoRow.holds Try.pinned (OpenSpec.upto fnExactRowsOfSpec)

/-- 'laws.FnCouplesCalmOfAll', WHERE WHAT IT READS IS OF BULK AT MOST 1048576: true; the input reads as it did. -/
def fnCouplesCalmOfAllUptoRow : OpenClaim := { program := "ytibdeohiimjocaa", sum := "f36acf243df3bb549be82d752cbf51e7fe5d2a0caa137298cfe4f8f0a323464c", func := "loop.example/g01272/laws.FnCouplesCalmOfAll", spec := "fnCouplesCalmOfAll", unfollowed := true, recurses := true, apart := false, narrowed := true }
def FnCouplesCalmOfAllUptoSaid : Prop := fnCouplesCalmOfAllUptoRow.holds Try.pinned (OpenSpec.upto fnCouplesCalmOfAllSpec)

/-- 'laws.FnExactFirstRows', WHERE WHAT IT READS IS OF BULK AT MOST 1048576: true; the input reads as it did. -/
def fnExactFirstRowsUptoRow : OpenClaim := { program := "ytibdeohiimjocaa", sum := "f36acf243df3bb549be82d752cbf51e7fe5d2a0caa137298cfe4f8f0a323464c", func := "loop.example/g01272/laws.FnExactFirstRows", spec := "fnExactFirstRows", unfollowed := true, recurses := true, apart := false, narrowed := true }
def FnExactFirstRowsUptoSaid : Prop := fnExactFirstRowsUptoRow.holds Try.pinned (OpenSpec.upto fnExactFirstRowsSpec)

end Rows
end Go.Proofs.Ytibdeohiimjocaa
