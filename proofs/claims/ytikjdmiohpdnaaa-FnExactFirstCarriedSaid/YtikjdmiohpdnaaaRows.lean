/-
  No cell of these rows narrows 'for every input' (looked for: loops, veiled, ifaces, maps, wideKeys, modest, calm, conditions, laid).
  DERIVED. THE GIVEN ROWS OF THIS SEAT. 9 by the template 'for every input the law returns true; each argument reads behind the call as it read before'; 0 by the template 'total and deterministic' (their statements: YtikjdmiohpdnaaaTotals.lean).
  GIVEN WITH THE SEED: the statements are not yours to turn. If you find one false, say at which input.
  Laid BY PROGRAM, IN A SANDBOX (cutbox-rows.mjs): the forced cells as the released guide's own fill.sh prints them over the translation daefb7adb14d102e… (all of the seat's roots in one cut). By AI agents, Wed Nov 11 2026. No macro, syntax, notation, axiom, sorry.
-/
import Derived.Test.YtikjdmiohpdnaaaChecked
import GoSem.Claim
import GoSem.ClaimJoined
import GoSem.ClaimMapViews
import Derived.JoinedTies
import Derived.KernelRfl
namespace Go.Proofs.Ytikjdmiohpdnaaa
/- THE CELL 'sum', in the pinned program and in every row, IS THE sha256 OF THE DUMP (.gsa) THAT YtikjdmiohpdnaaaProg.lean LOADS. Nothing in Lean hashes anything: it is a label: what it is worth is what the hold of that sum in a sandbox is worth. -/
noncomputable def Try.pinned : Pinned := { name := "ytikjdmiohpdnaaa", sum := "daefb7adb14d102e27decb740f8d6e0daafb7ccbd5ce1a29eaf5b4d0f8f4797c", checked := Try.checked }
namespace Rows
def none {H : Type} : Left H := { results := [], args := [] }

/-- 'laws.FnExactLoadOf': WHATEVER THE INPUT: true; the input reads as it did. -/
def fnExactLoadOfSpec : ChangeSpec := { name := "fnExactLoadOf", fn := fun _ => fun
  | [d1, d2] => { results := [.lit (.bool true)], args := [d1, d2] }
  | _ => none }
def fnExactLoadOfRow : OpenClaim := { program := "ytikjdmiohpdnaaa", sum := "daefb7adb14d102e27decb740f8d6e0daafb7ccbd5ce1a29eaf5b4d0f8f4797c", func := "loop.example/g01272/laws.FnExactLoadOf", spec := "fnExactLoadOf", unfollowed := true, recurses := true, apart := false }
def FnExactLoadOfSaid : Prop := fnExactLoadOfRow.holds Try.pinned (OpenSpec.ofChange fnExactLoadOfSpec)

/-- ITS FALSE NEIGHBOUR: 'it returns false'. Refute it at one input. -/
def fnExactLoadOfWrong : ChangeSpec := { name := "fnExactLoadOf", fn := fun _ => fun
  | [d1, d2] => { results := [.lit (.bool false)], args := [d1, d2] }
  | _ => none }
def FnExactLoadOfWrongFalsely : Prop := fnExactLoadOfRow.holds Try.pinned (OpenSpec.ofChange fnExactLoadOfWrong)

/-- 'laws.FnExactRideWithCrew': WHATEVER THE INPUT: true; the input reads as it did. -/
def fnExactRideWithCrewSpec : ChangeSpec := { name := "fnExactRideWithCrew", fn := fun _ => fun
  | [d1, d2, d3] => { results := [.lit (.bool true)], args := [d1, d2, d3] }
  | _ => none }
def fnExactRideWithCrewRow : OpenClaim := { program := "ytikjdmiohpdnaaa", sum := "daefb7adb14d102e27decb740f8d6e0daafb7ccbd5ce1a29eaf5b4d0f8f4797c", func := "loop.example/g01272/laws.FnExactRideWithCrew", spec := "fnExactRideWithCrew", unfollowed := true, recurses := true, apart := false }
def FnExactRideWithCrewSaid : Prop := fnExactRideWithCrewRow.holds Try.pinned (OpenSpec.ofChange fnExactRideWithCrewSpec)

/-- ITS FALSE NEIGHBOUR: 'it returns false'. Refute it at one input. -/
def fnExactRideWithCrewWrong : ChangeSpec := { name := "fnExactRideWithCrew", fn := fun _ => fun
  | [d1, d2, d3] => { results := [.lit (.bool false)], args := [d1, d2, d3] }
  | _ => none }
def FnExactRideWithCrewWrongFalsely : Prop := fnExactRideWithCrewRow.holds Try.pinned (OpenSpec.ofChange fnExactRideWithCrewWrong)

/-- 'laws.FnExactIsCrewPlan': WHATEVER THE INPUT: true; the input reads as it did. -/
def fnExactIsCrewPlanSpec : ChangeSpec := { name := "fnExactIsCrewPlan", fn := fun _ => fun
  | [d1, d2] => { results := [.lit (.bool true)], args := [d1, d2] }
  | _ => none }
def fnExactIsCrewPlanRow : OpenClaim := { program := "ytikjdmiohpdnaaa", sum := "daefb7adb14d102e27decb740f8d6e0daafb7ccbd5ce1a29eaf5b4d0f8f4797c", func := "loop.example/g01272/laws.FnExactIsCrewPlan", spec := "fnExactIsCrewPlan", unfollowed := true, recurses := true, apart := false }
def FnExactIsCrewPlanSaid : Prop := fnExactIsCrewPlanRow.holds Try.pinned (OpenSpec.ofChange fnExactIsCrewPlanSpec)

/-- ITS FALSE NEIGHBOUR: 'it returns false'. Refute it at one input. -/
def fnExactIsCrewPlanWrong : ChangeSpec := { name := "fnExactIsCrewPlan", fn := fun _ => fun
  | [d1, d2] => { results := [.lit (.bool false)], args := [d1, d2] }
  | _ => none }
def FnExactIsCrewPlanWrongFalsely : Prop := fnExactIsCrewPlanRow.holds Try.pinned (OpenSpec.ofChange fnExactIsCrewPlanWrong)

/-- 'laws.FnExactRidesOfCrew': WHATEVER THE INPUT: true; the input reads as it did. -/
def fnExactRidesOfCrewSpec : ChangeSpec := { name := "fnExactRidesOfCrew", fn := fun _ => fun
  | [d1, d2] => { results := [.lit (.bool true)], args := [d1, d2] }
  | _ => none }
def fnExactRidesOfCrewRow : OpenClaim := { program := "ytikjdmiohpdnaaa", sum := "daefb7adb14d102e27decb740f8d6e0daafb7ccbd5ce1a29eaf5b4d0f8f4797c", func := "loop.example/g01272/laws.FnExactRidesOfCrew", spec := "fnExactRidesOfCrew", unfollowed := true, recurses := true, apart := false }
def FnExactRidesOfCrewSaid : Prop := fnExactRidesOfCrewRow.holds Try.pinned (OpenSpec.ofChange fnExactRidesOfCrewSpec)

/-- ITS FALSE NEIGHBOUR: 'it returns false'. Refute it at one input. -/
def fnExactRidesOfCrewWrong : ChangeSpec := { name := "fnExactRidesOfCrew", fn := fun _ => fun
  | [d1, d2] => { results := [.lit (.bool false)], args := [d1, d2] }
  | _ => none }
def FnExactRidesOfCrewWrongFalsely : Prop := fnExactRidesOfCrewRow.holds Try.pinned (OpenSpec.ofChange fnExactRidesOfCrewWrong)

/-- 'laws.FnExactNeededRowers': WHATEVER THE INPUT: true; the input reads as it did. -/
def fnExactNeededRowersSpec : ChangeSpec := { name := "fnExactNeededRowers", fn := fun _ => fun
  | [d] => { results := [.lit (.bool true)], args := [d] }
  | _ => none }
def fnExactNeededRowersRow : OpenClaim := { program := "ytikjdmiohpdnaaa", sum := "daefb7adb14d102e27decb740f8d6e0daafb7ccbd5ce1a29eaf5b4d0f8f4797c", func := "loop.example/g01272/laws.FnExactNeededRowers", spec := "fnExactNeededRowers", unfollowed := true, recurses := true, apart := false }
def FnExactNeededRowersSaid : Prop := fnExactNeededRowersRow.holds Try.pinned (OpenSpec.ofChange fnExactNeededRowersSpec)

/-- ITS FALSE NEIGHBOUR: 'it returns false'. Refute it at one input. -/
def fnExactNeededRowersWrong : ChangeSpec := { name := "fnExactNeededRowers", fn := fun _ => fun
  | [d] => { results := [.lit (.bool false)], args := [d] }
  | _ => none }
def FnExactNeededRowersWrongFalsely : Prop := fnExactNeededRowersRow.holds Try.pinned (OpenSpec.ofChange fnExactNeededRowersWrong)

/-- 'laws.FnExactFirstCarried': WHATEVER THE INPUT: true; the input reads as it did. -/
def fnExactFirstCarriedSpec : ChangeSpec := { name := "fnExactFirstCarried", fn := fun _ => fun
  | [d] => { results := [.lit (.bool true)], args := [d] }
  | _ => none }
def fnExactFirstCarriedRow : OpenClaim := { program := "ytikjdmiohpdnaaa", sum := "daefb7adb14d102e27decb740f8d6e0daafb7ccbd5ce1a29eaf5b4d0f8f4797c", func := "loop.example/g01272/laws.FnExactFirstCarried", spec := "fnExactFirstCarried", unfollowed := true, recurses := true, apart := false }
def FnExactFirstCarriedSaid : Prop := fnExactFirstCarriedRow.holds Try.pinned (OpenSpec.ofChange fnExactFirstCarriedSpec)

/-- ITS FALSE NEIGHBOUR: 'it returns false'. Refute it at one input. -/
def fnExactFirstCarriedWrong : ChangeSpec := { name := "fnExactFirstCarried", fn := fun _ => fun
  | [d] => { results := [.lit (.bool false)], args := [d] }
  | _ => none }
def FnExactFirstCarriedWrongFalsely : Prop := fnExactFirstCarriedRow.holds Try.pinned (OpenSpec.ofChange fnExactFirstCarriedWrong)

/-- 'laws.FnExactCountReachedCrews': WHATEVER THE INPUT: true; the input reads as it did. -/
def fnExactCountReachedCrewsSpec : ChangeSpec := { name := "fnExactCountReachedCrews", fn := fun _ => fun
  | [d] => { results := [.lit (.bool true)], args := [d] }
  | _ => none }
def fnExactCountReachedCrewsRow : OpenClaim := { program := "ytikjdmiohpdnaaa", sum := "daefb7adb14d102e27decb740f8d6e0daafb7ccbd5ce1a29eaf5b4d0f8f4797c", func := "loop.example/g01272/laws.FnExactCountReachedCrews", spec := "fnExactCountReachedCrews", unfollowed := true, recurses := true, apart := false }
def FnExactCountReachedCrewsSaid : Prop := fnExactCountReachedCrewsRow.holds Try.pinned (OpenSpec.ofChange fnExactCountReachedCrewsSpec)

/-- ITS FALSE NEIGHBOUR: 'it returns false'. Refute it at one input. -/
def fnExactCountReachedCrewsWrong : ChangeSpec := { name := "fnExactCountReachedCrews", fn := fun _ => fun
  | [d] => { results := [.lit (.bool false)], args := [d] }
  | _ => none }
def FnExactCountReachedCrewsWrongFalsely : Prop := fnExactCountReachedCrewsRow.holds Try.pinned (OpenSpec.ofChange fnExactCountReachedCrewsWrong)

/-- 'laws.FnExactFewestOfCrew': WHATEVER THE INPUT: true; the input reads as it did. -/
def fnExactFewestOfCrewSpec : ChangeSpec := { name := "fnExactFewestOfCrew", fn := fun _ => fun
  | [d] => { results := [.lit (.bool true)], args := [d] }
  | _ => none }
def fnExactFewestOfCrewRow : OpenClaim := { program := "ytikjdmiohpdnaaa", sum := "daefb7adb14d102e27decb740f8d6e0daafb7ccbd5ce1a29eaf5b4d0f8f4797c", func := "loop.example/g01272/laws.FnExactFewestOfCrew", spec := "fnExactFewestOfCrew", unfollowed := true, recurses := true, apart := false }
def FnExactFewestOfCrewSaid : Prop := fnExactFewestOfCrewRow.holds Try.pinned (OpenSpec.ofChange fnExactFewestOfCrewSpec)

/-- ITS FALSE NEIGHBOUR: 'it returns false'. Refute it at one input. -/
def fnExactFewestOfCrewWrong : ChangeSpec := { name := "fnExactFewestOfCrew", fn := fun _ => fun
  | [d] => { results := [.lit (.bool false)], args := [d] }
  | _ => none }
def FnExactFewestOfCrewWrongFalsely : Prop := fnExactFewestOfCrewRow.holds Try.pinned (OpenSpec.ofChange fnExactFewestOfCrewWrong)

/-- 'laws.FnExactLeastCarried': WHATEVER THE INPUT: true; the input reads as it did. -/
def fnExactLeastCarriedSpec : ChangeSpec := { name := "fnExactLeastCarried", fn := fun _ => fun
  | [d] => { results := [.lit (.bool true)], args := [d] }
  | _ => none }
def fnExactLeastCarriedRow : OpenClaim := { program := "ytikjdmiohpdnaaa", sum := "daefb7adb14d102e27decb740f8d6e0daafb7ccbd5ce1a29eaf5b4d0f8f4797c", func := "loop.example/g01272/laws.FnExactLeastCarried", spec := "fnExactLeastCarried", unfollowed := true, recurses := true, apart := false }
def FnExactLeastCarriedSaid : Prop := fnExactLeastCarriedRow.holds Try.pinned (OpenSpec.ofChange fnExactLeastCarriedSpec)

/-- ITS FALSE NEIGHBOUR: 'it returns false'. Refute it at one input. -/
def fnExactLeastCarriedWrong : ChangeSpec := { name := "fnExactLeastCarried", fn := fun _ => fun
  | [d] => { results := [.lit (.bool false)], args := [d] }
  | _ => none }
def FnExactLeastCarriedWrongFalsely : Prop := fnExactLeastCarriedRow.holds Try.pinned (OpenSpec.ofChange fnExactLeastCarriedWrong)

/- THE SECOND FORM. 'bulk': how many values and letters a reading holds, each counted each time it is reached (what is shared counts as often as it is met; a slice's spare places count too). A statement '..UptoSaid' is the law's where the arguments, and the package variables that the reading takes, are together of bulk at most 1048576: NARROWER than '..Said'. Prove '..Said' where nothing that the law and all that it calls make is longer than what came in: it says more and counts as full. Else prove '..UptoSaid'. A law counts once. -/
mutual
def uptoBulk {H : Type} : DataW H → Nat
  | .lit (.string bytes) => bytes.length + 1
  | .lit _ => 1
  | .nil => 1
  | .ptr d => uptoBulk d + 1
  | .slice elems spare => uptoBulkAll elems + uptoBulkAll spare + 1
  | .agg parts => uptoBulkAll parts + 1
  | .iface _ d => uptoBulk d + 1
  | .map entries => uptoBulkEntries entries + 1
  | .held _ => 1
def uptoBulkAll {H : Type} : List (DataW H) → Nat
  | [] => 0
  | d :: r => uptoBulk d + uptoBulkAll r
def uptoBulkEntries {H : Type} : List (Lit × DataW H) → Nat
  | [] => 0
  | x :: r => uptoBulkEntry x + uptoBulkEntries r
def uptoBulkEntry {H : Type} : Lit × DataW H → Nat
  | (.string bytes, d) => bytes.length + uptoBulk d + 1
  | (_, d) => uptoBulk d + 1
 end
def uptoSmall : (H : Type) → List (DataW H) → Bool := fun _ ds => decide (uptoBulkAll ds ≤ 1048576)
def OpenSpec.upto (s : _root_.Go.ChangeSpec) : _root_.Go.OpenSpec := { _root_.Go.OpenSpec.ofChange s with cond := some uptoSmall }

/-- 'laws.FnExactLoadOf', WHERE WHAT IT READS IS OF BULK AT MOST 1048576: true; the input reads as it did. -/
def fnExactLoadOfUptoRow : OpenClaim := { program := "ytikjdmiohpdnaaa", sum := "daefb7adb14d102e27decb740f8d6e0daafb7ccbd5ce1a29eaf5b4d0f8f4797c", func := "loop.example/g01272/laws.FnExactLoadOf", spec := "fnExactLoadOf", unfollowed := true, recurses := true, apart := false, narrowed := true }
def FnExactLoadOfUptoSaid : Prop := fnExactLoadOfUptoRow.holds Try.pinned (OpenSpec.upto fnExactLoadOfSpec)

/-- 'laws.FnExactRideWithCrew', WHERE WHAT IT READS IS OF BULK AT MOST 1048576: true; the input reads as it did. -/
def fnExactRideWithCrewUptoRow : OpenClaim := { program := "ytikjdmiohpdnaaa", sum := "daefb7adb14d102e27decb740f8d6e0daafb7ccbd5ce1a29eaf5b4d0f8f4797c", func := "loop.example/g01272/laws.FnExactRideWithCrew", spec := "fnExactRideWithCrew", unfollowed := true, recurses := true, apart := false, narrowed := true }
def FnExactRideWithCrewUptoSaid : Prop := fnExactRideWithCrewUptoRow.holds Try.pinned (OpenSpec.upto fnExactRideWithCrewSpec)

/-- 'laws.FnExactIsCrewPlan', WHERE WHAT IT READS IS OF BULK AT MOST 1048576: true; the input reads as it did. -/
def fnExactIsCrewPlanUptoRow : OpenClaim := { program := "ytikjdmiohpdnaaa", sum := "daefb7adb14d102e27decb740f8d6e0daafb7ccbd5ce1a29eaf5b4d0f8f4797c", func := "loop.example/g01272/laws.FnExactIsCrewPlan", spec := "fnExactIsCrewPlan", unfollowed := true, recurses := true, apart := false, narrowed := true }
def FnExactIsCrewPlanUptoSaid : Prop := fnExactIsCrewPlanUptoRow.holds Try.pinned (OpenSpec.upto fnExactIsCrewPlanSpec)

/-- 'laws.FnExactRidesOfCrew', WHERE WHAT IT READS IS OF BULK AT MOST 1048576: true; the input reads as it did. -/
def fnExactRidesOfCrewUptoRow : OpenClaim := { program := "ytikjdmiohpdnaaa", sum := "daefb7adb14d102e27decb740f8d6e0daafb7ccbd5ce1a29eaf5b4d0f8f4797c", func := "loop.example/g01272/laws.FnExactRidesOfCrew", spec := "fnExactRidesOfCrew", unfollowed := true, recurses := true, apart := false, narrowed := true }
def FnExactRidesOfCrewUptoSaid : Prop := fnExactRidesOfCrewUptoRow.holds Try.pinned (OpenSpec.upto fnExactRidesOfCrewSpec)

/-- 'laws.FnExactNeededRowers', WHERE WHAT IT READS IS OF BULK AT MOST 1048576: true; the input reads as it did. -/
def fnExactNeededRowersUptoRow : OpenClaim := { program := "ytikjdmiohpdnaaa", sum := "daefb7adb14d102e27decb740f8d6e0daafb7ccbd5ce1a29eaf5b4d0f8f4797c", func := "loop.example/g01272/laws.FnExactNeededRowers", spec := "fnExactNeededRowers", unfollowed := true, recurses := true, apart := false, narrowed := true }
def FnExactNeededRowersUptoSaid : Prop := fnExactNeededRowersUptoRow.holds Try.pinned (OpenSpec.upto fnExactNeededRowersSpec)

/-- 'laws.FnExactFirstCarried', WHERE WHAT IT READS IS OF BULK AT MOST 1048576: true; the input reads as it did. -/
def fnExactFirstCarriedUptoRow : OpenClaim := { program := "ytikjdmiohpdnaaa", sum := "daefb7adb14d102e27decb740f8d6e0daafb7ccbd5ce1a29eaf5b4d0f8f4797c", func := "loop.example/g01272/laws.FnExactFirstCarried", spec := "fnExactFirstCarried", unfollowed := true, recurses := true, apart := false, narrowed := true }
def FnExactFirstCarriedUptoSaid : Prop := fnExactFirstCarriedUptoRow.holds Try.pinned (OpenSpec.upto fnExactFirstCarriedSpec)

/-- 'laws.FnExactCountReachedCrews', WHERE WHAT IT READS IS OF BULK AT MOST 1048576: true; the input reads as it did. -/
def fnExactCountReachedCrewsUptoRow : OpenClaim := { program := "ytikjdmiohpdnaaa", sum := "daefb7adb14d102e27decb740f8d6e0daafb7ccbd5ce1a29eaf5b4d0f8f4797c", func := "loop.example/g01272/laws.FnExactCountReachedCrews", spec := "fnExactCountReachedCrews", unfollowed := true, recurses := true, apart := false, narrowed := true }
def FnExactCountReachedCrewsUptoSaid : Prop := fnExactCountReachedCrewsUptoRow.holds Try.pinned (OpenSpec.upto fnExactCountReachedCrewsSpec)

/-- 'laws.FnExactFewestOfCrew', WHERE WHAT IT READS IS OF BULK AT MOST 1048576: true; the input reads as it did. -/
def fnExactFewestOfCrewUptoRow : OpenClaim := { program := "ytikjdmiohpdnaaa", sum := "daefb7adb14d102e27decb740f8d6e0daafb7ccbd5ce1a29eaf5b4d0f8f4797c", func := "loop.example/g01272/laws.FnExactFewestOfCrew", spec := "fnExactFewestOfCrew", unfollowed := true, recurses := true, apart := false, narrowed := true }
def FnExactFewestOfCrewUptoSaid : Prop := fnExactFewestOfCrewUptoRow.holds Try.pinned (OpenSpec.upto fnExactFewestOfCrewSpec)

/-- 'laws.FnExactLeastCarried', WHERE WHAT IT READS IS OF BULK AT MOST 1048576: true; the input reads as it did. -/
def fnExactLeastCarriedUptoRow : OpenClaim := { program := "ytikjdmiohpdnaaa", sum := "daefb7adb14d102e27decb740f8d6e0daafb7ccbd5ce1a29eaf5b4d0f8f4797c", func := "loop.example/g01272/laws.FnExactLeastCarried", spec := "fnExactLeastCarried", unfollowed := true, recurses := true, apart := false, narrowed := true }
def FnExactLeastCarriedUptoSaid : Prop := fnExactLeastCarriedUptoRow.holds Try.pinned (OpenSpec.upto fnExactLeastCarriedSpec)

end Rows
end Go.Proofs.Ytikjdmiohpdnaaa
