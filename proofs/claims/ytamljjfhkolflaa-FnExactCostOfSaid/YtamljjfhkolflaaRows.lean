/-
  No cell of these rows narrows 'for every input' (looked for: loops, veiled, ifaces, maps, wideKeys, modest, calm, conditions, laid).
  DERIVED. THE GIVEN ROWS OF THIS SEAT. 13 by the template 'for every input the law returns true; each argument reads behind the call as it read before'; 0 by the template 'total and deterministic' (their statements: YtamljjfhkolflaaTotals.lean).
  GIVEN WITH THE SEED: the statements are not yours to turn. If you find one false, say at which input.
  Laid BY PROGRAM, IN A SANDBOX (cutbox-rows.mjs): the forced cells as the released guide's own fill.sh prints them over the translation bdea6ed6a7a23bd0… (all of the seat's roots in one cut). By AI agents, Wed Nov 11 2026. No macro, syntax, notation, axiom, sorry.
-/
import Derived.Test.YtamljjfhkolflaaChecked
import GoSem.Claim
import GoSem.ClaimJoined
import GoSem.ClaimMapViews
import Derived.JoinedTies
import Derived.KernelRfl
namespace Go.Proofs.Ytamljjfhkolflaa
/- THE CELL 'sum', in the pinned program and in every row, IS THE sha256 OF THE DUMP (.gsa) THAT YtamljjfhkolflaaProg.lean LOADS. Nothing in Lean hashes anything: it is a label: what it is worth is what the hold of that sum in a sandbox is worth. -/
noncomputable def Try.pinned : Pinned := { name := "ytamljjfhkolflaa", sum := "bdea6ed6a7a23bd098c09c78a59f416979dd13c9069902e03707e6e95fcc7a64", checked := Try.checked }
namespace Rows
def none {H : Type} : Left H := { results := [], args := [] }

/-- 'laws.FnExactReachedIn': WHATEVER THE INPUT: true; the input reads as it did. -/
def fnExactReachedInSpec : ChangeSpec := { name := "fnExactReachedIn", fn := fun _ => fun
  | [d1, d2] => { results := [.lit (.bool true)], args := [d1, d2] }
  | _ => none }
def fnExactReachedInRow : OpenClaim := { program := "ytamljjfhkolflaa", sum := "bdea6ed6a7a23bd098c09c78a59f416979dd13c9069902e03707e6e95fcc7a64", func := "loop.example/g01272/laws.FnExactReachedIn", spec := "fnExactReachedIn", unfollowed := true, recurses := true, apart := false }
def FnExactReachedInSaid : Prop := fnExactReachedInRow.holds Try.pinned (OpenSpec.ofChange fnExactReachedInSpec)

/-- ITS FALSE NEIGHBOUR: 'it returns false'. Refute it at one input. -/
def fnExactReachedInWrong : ChangeSpec := { name := "fnExactReachedIn", fn := fun _ => fun
  | [d1, d2] => { results := [.lit (.bool false)], args := [d1, d2] }
  | _ => none }
def FnExactReachedInWrongFalsely : Prop := fnExactReachedInRow.holds Try.pinned (OpenSpec.ofChange fnExactReachedInWrong)

/-- 'laws.FnExactLeastTime': WHATEVER THE INPUT: true; the input reads as it did. -/
def fnExactLeastTimeSpec : ChangeSpec := { name := "fnExactLeastTime", fn := fun _ => fun
  | [d] => { results := [.lit (.bool true)], args := [d] }
  | _ => none }
def fnExactLeastTimeRow : OpenClaim := { program := "ytamljjfhkolflaa", sum := "bdea6ed6a7a23bd098c09c78a59f416979dd13c9069902e03707e6e95fcc7a64", func := "loop.example/g01272/laws.FnExactLeastTime", spec := "fnExactLeastTime", unfollowed := true, recurses := true, apart := false }
def FnExactLeastTimeSaid : Prop := fnExactLeastTimeRow.holds Try.pinned (OpenSpec.ofChange fnExactLeastTimeSpec)

/-- ITS FALSE NEIGHBOUR: 'it returns false'. Refute it at one input. -/
def fnExactLeastTimeWrong : ChangeSpec := { name := "fnExactLeastTime", fn := fun _ => fun
  | [d] => { results := [.lit (.bool false)], args := [d] }
  | _ => none }
def FnExactLeastTimeWrongFalsely : Prop := fnExactLeastTimeRow.holds Try.pinned (OpenSpec.ofChange fnExactLeastTimeWrong)

/-- 'laws.FnExactFewestTrips': WHATEVER THE INPUT: true; the input reads as it did. -/
def fnExactFewestTripsSpec : ChangeSpec := { name := "fnExactFewestTrips", fn := fun _ => fun
  | [d] => { results := [.lit (.bool true)], args := [d] }
  | _ => none }
def fnExactFewestTripsRow : OpenClaim := { program := "ytamljjfhkolflaa", sum := "bdea6ed6a7a23bd098c09c78a59f416979dd13c9069902e03707e6e95fcc7a64", func := "loop.example/g01272/laws.FnExactFewestTrips", spec := "fnExactFewestTrips", unfollowed := true, recurses := true, apart := false }
def FnExactFewestTripsSaid : Prop := fnExactFewestTripsRow.holds Try.pinned (OpenSpec.ofChange fnExactFewestTripsSpec)

/-- ITS FALSE NEIGHBOUR: 'it returns false'. Refute it at one input. -/
def fnExactFewestTripsWrong : ChangeSpec := { name := "fnExactFewestTrips", fn := fun _ => fun
  | [d] => { results := [.lit (.bool false)], args := [d] }
  | _ => none }
def FnExactFewestTripsWrongFalsely : Prop := fnExactFewestTripsRow.holds Try.pinned (OpenSpec.ofChange fnExactFewestTripsWrong)

/-- 'laws.FnExactCountOnBest': WHATEVER THE INPUT: true; the input reads as it did. -/
def fnExactCountOnBestSpec : ChangeSpec := { name := "fnExactCountOnBest", fn := fun _ => fun
  | [d] => { results := [.lit (.bool true)], args := [d] }
  | _ => none }
def fnExactCountOnBestRow : OpenClaim := { program := "ytamljjfhkolflaa", sum := "bdea6ed6a7a23bd098c09c78a59f416979dd13c9069902e03707e6e95fcc7a64", func := "loop.example/g01272/laws.FnExactCountOnBest", spec := "fnExactCountOnBest", unfollowed := true, recurses := true, apart := false }
def FnExactCountOnBestSaid : Prop := fnExactCountOnBestRow.holds Try.pinned (OpenSpec.ofChange fnExactCountOnBestSpec)

/-- ITS FALSE NEIGHBOUR: 'it returns false'. Refute it at one input. -/
def fnExactCountOnBestWrong : ChangeSpec := { name := "fnExactCountOnBest", fn := fun _ => fun
  | [d] => { results := [.lit (.bool false)], args := [d] }
  | _ => none }
def FnExactCountOnBestWrongFalsely : Prop := fnExactCountOnBestRow.holds Try.pinned (OpenSpec.ofChange fnExactCountOnBestWrong)

/-- 'laws.FnExactCostOf': WHATEVER THE INPUT: true; the input reads as it did. -/
def fnExactCostOfSpec : ChangeSpec := { name := "fnExactCostOf", fn := fun _ => fun
  | [d1, d2] => { results := [.lit (.bool true)], args := [d1, d2] }
  | _ => none }
def fnExactCostOfRow : OpenClaim := { program := "ytamljjfhkolflaa", sum := "bdea6ed6a7a23bd098c09c78a59f416979dd13c9069902e03707e6e95fcc7a64", func := "loop.example/g01272/laws.FnExactCostOf", spec := "fnExactCostOf", unfollowed := true, recurses := true, apart := false }
def FnExactCostOfSaid : Prop := fnExactCostOfRow.holds Try.pinned (OpenSpec.ofChange fnExactCostOfSpec)

/-- ITS FALSE NEIGHBOUR: 'it returns false'. Refute it at one input. -/
def fnExactCostOfWrong : ChangeSpec := { name := "fnExactCostOf", fn := fun _ => fun
  | [d1, d2] => { results := [.lit (.bool false)], args := [d1, d2] }
  | _ => none }
def FnExactCostOfWrongFalsely : Prop := fnExactCostOfRow.holds Try.pinned (OpenSpec.ofChange fnExactCostOfWrong)

/-- 'laws.FnExactTimesBySeats': WHATEVER THE INPUT: true; the input reads as it did. -/
def fnExactTimesBySeatsSpec : ChangeSpec := { name := "fnExactTimesBySeats", fn := fun _ => fun
  | [d] => { results := [.lit (.bool true)], args := [d] }
  | _ => none }
def fnExactTimesBySeatsRow : OpenClaim := { program := "ytamljjfhkolflaa", sum := "bdea6ed6a7a23bd098c09c78a59f416979dd13c9069902e03707e6e95fcc7a64", func := "loop.example/g01272/laws.FnExactTimesBySeats", spec := "fnExactTimesBySeats", unfollowed := true, recurses := true, apart := false }
def FnExactTimesBySeatsSaid : Prop := fnExactTimesBySeatsRow.holds Try.pinned (OpenSpec.ofChange fnExactTimesBySeatsSpec)

/-- ITS FALSE NEIGHBOUR: 'it returns false'. Refute it at one input. -/
def fnExactTimesBySeatsWrong : ChangeSpec := { name := "fnExactTimesBySeats", fn := fun _ => fun
  | [d] => { results := [.lit (.bool false)], args := [d] }
  | _ => none }
def FnExactTimesBySeatsWrongFalsely : Prop := fnExactTimesBySeatsRow.holds Try.pinned (OpenSpec.ofChange fnExactTimesBySeatsWrong)

/-- 'laws.FnExactTimeTo': WHATEVER THE INPUT: true; the input reads as it did. -/
def fnExactTimeToSpec : ChangeSpec := { name := "fnExactTimeTo", fn := fun _ => fun
  | [d1, d2] => { results := [.lit (.bool true)], args := [d1, d2] }
  | _ => none }
def fnExactTimeToRow : OpenClaim := { program := "ytamljjfhkolflaa", sum := "bdea6ed6a7a23bd098c09c78a59f416979dd13c9069902e03707e6e95fcc7a64", func := "loop.example/g01272/laws.FnExactTimeTo", spec := "fnExactTimeTo", unfollowed := true, recurses := true, apart := false }
def FnExactTimeToSaid : Prop := fnExactTimeToRow.holds Try.pinned (OpenSpec.ofChange fnExactTimeToSpec)

/-- ITS FALSE NEIGHBOUR: 'it returns false'. Refute it at one input. -/
def fnExactTimeToWrong : ChangeSpec := { name := "fnExactTimeTo", fn := fun _ => fun
  | [d1, d2] => { results := [.lit (.bool false)], args := [d1, d2] }
  | _ => none }
def FnExactTimeToWrongFalsely : Prop := fnExactTimeToRow.holds Try.pinned (OpenSpec.ofChange fnExactTimeToWrong)

/-- 'laws.FnExactTimeFrom': WHATEVER THE INPUT: true; the input reads as it did. -/
def fnExactTimeFromSpec : ChangeSpec := { name := "fnExactTimeFrom", fn := fun _ => fun
  | [d1, d2] => { results := [.lit (.bool true)], args := [d1, d2] }
  | _ => none }
def fnExactTimeFromRow : OpenClaim := { program := "ytamljjfhkolflaa", sum := "bdea6ed6a7a23bd098c09c78a59f416979dd13c9069902e03707e6e95fcc7a64", func := "loop.example/g01272/laws.FnExactTimeFrom", spec := "fnExactTimeFrom", unfollowed := true, recurses := true, apart := false }
def FnExactTimeFromSaid : Prop := fnExactTimeFromRow.holds Try.pinned (OpenSpec.ofChange fnExactTimeFromSpec)

/-- ITS FALSE NEIGHBOUR: 'it returns false'. Refute it at one input. -/
def fnExactTimeFromWrong : ChangeSpec := { name := "fnExactTimeFrom", fn := fun _ => fun
  | [d1, d2] => { results := [.lit (.bool false)], args := [d1, d2] }
  | _ => none }
def FnExactTimeFromWrongFalsely : Prop := fnExactTimeFromRow.holds Try.pinned (OpenSpec.ofChange fnExactTimeFromWrong)

/-- 'laws.FnExactBestFirstTrips': WHATEVER THE INPUT: true; the input reads as it did. -/
def fnExactBestFirstTripsSpec : ChangeSpec := { name := "fnExactBestFirstTrips", fn := fun _ => fun
  | [d] => { results := [.lit (.bool true)], args := [d] }
  | _ => none }
def fnExactBestFirstTripsRow : OpenClaim := { program := "ytamljjfhkolflaa", sum := "bdea6ed6a7a23bd098c09c78a59f416979dd13c9069902e03707e6e95fcc7a64", func := "loop.example/g01272/laws.FnExactBestFirstTrips", spec := "fnExactBestFirstTrips", unfollowed := true, recurses := true, apart := false }
def FnExactBestFirstTripsSaid : Prop := fnExactBestFirstTripsRow.holds Try.pinned (OpenSpec.ofChange fnExactBestFirstTripsSpec)

/-- ITS FALSE NEIGHBOUR: 'it returns false'. Refute it at one input. -/
def fnExactBestFirstTripsWrong : ChangeSpec := { name := "fnExactBestFirstTrips", fn := fun _ => fun
  | [d] => { results := [.lit (.bool false)], args := [d] }
  | _ => none }
def FnExactBestFirstTripsWrongFalsely : Prop := fnExactBestFirstTripsRow.holds Try.pinned (OpenSpec.ofChange fnExactBestFirstTripsWrong)

/-- 'laws.FnExactFewestOfBest': WHATEVER THE INPUT: true; the input reads as it did. -/
def fnExactFewestOfBestSpec : ChangeSpec := { name := "fnExactFewestOfBest", fn := fun _ => fun
  | [d] => { results := [.lit (.bool true)], args := [d] }
  | _ => none }
def fnExactFewestOfBestRow : OpenClaim := { program := "ytamljjfhkolflaa", sum := "bdea6ed6a7a23bd098c09c78a59f416979dd13c9069902e03707e6e95fcc7a64", func := "loop.example/g01272/laws.FnExactFewestOfBest", spec := "fnExactFewestOfBest", unfollowed := true, recurses := true, apart := false }
def FnExactFewestOfBestSaid : Prop := fnExactFewestOfBestRow.holds Try.pinned (OpenSpec.ofChange fnExactFewestOfBestSpec)

/-- ITS FALSE NEIGHBOUR: 'it returns false'. Refute it at one input. -/
def fnExactFewestOfBestWrong : ChangeSpec := { name := "fnExactFewestOfBest", fn := fun _ => fun
  | [d] => { results := [.lit (.bool false)], args := [d] }
  | _ => none }
def FnExactFewestOfBestWrongFalsely : Prop := fnExactFewestOfBestRow.holds Try.pinned (OpenSpec.ofChange fnExactFewestOfBestWrong)

/-- 'laws.FnExactFirstBest': WHATEVER THE INPUT: true; the input reads as it did. -/
def fnExactFirstBestSpec : ChangeSpec := { name := "fnExactFirstBest", fn := fun _ => fun
  | [d] => { results := [.lit (.bool true)], args := [d] }
  | _ => none }
def fnExactFirstBestRow : OpenClaim := { program := "ytamljjfhkolflaa", sum := "bdea6ed6a7a23bd098c09c78a59f416979dd13c9069902e03707e6e95fcc7a64", func := "loop.example/g01272/laws.FnExactFirstBest", spec := "fnExactFirstBest", unfollowed := true, recurses := true, apart := false }
def FnExactFirstBestSaid : Prop := fnExactFirstBestRow.holds Try.pinned (OpenSpec.ofChange fnExactFirstBestSpec)

/-- ITS FALSE NEIGHBOUR: 'it returns false'. Refute it at one input. -/
def fnExactFirstBestWrong : ChangeSpec := { name := "fnExactFirstBest", fn := fun _ => fun
  | [d] => { results := [.lit (.bool false)], args := [d] }
  | _ => none }
def FnExactFirstBestWrongFalsely : Prop := fnExactFirstBestRow.holds Try.pinned (OpenSpec.ofChange fnExactFirstBestWrong)

/-- 'laws.FnExactIsOnBest': WHATEVER THE INPUT: true; the input reads as it did. -/
def fnExactIsOnBestSpec : ChangeSpec := { name := "fnExactIsOnBest", fn := fun _ => fun
  | [d1, d2] => { results := [.lit (.bool true)], args := [d1, d2] }
  | _ => none }
def fnExactIsOnBestRow : OpenClaim := { program := "ytamljjfhkolflaa", sum := "bdea6ed6a7a23bd098c09c78a59f416979dd13c9069902e03707e6e95fcc7a64", func := "loop.example/g01272/laws.FnExactIsOnBest", spec := "fnExactIsOnBest", unfollowed := true, recurses := true, apart := false }
def FnExactIsOnBestSaid : Prop := fnExactIsOnBestRow.holds Try.pinned (OpenSpec.ofChange fnExactIsOnBestSpec)

/-- ITS FALSE NEIGHBOUR: 'it returns false'. Refute it at one input. -/
def fnExactIsOnBestWrong : ChangeSpec := { name := "fnExactIsOnBest", fn := fun _ => fun
  | [d1, d2] => { results := [.lit (.bool false)], args := [d1, d2] }
  | _ => none }
def FnExactIsOnBestWrongFalsely : Prop := fnExactIsOnBestRow.holds Try.pinned (OpenSpec.ofChange fnExactIsOnBestWrong)

/-- 'laws.FnExactFarthestStates': WHATEVER THE INPUT: true; the input reads as it did. -/
def fnExactFarthestStatesSpec : ChangeSpec := { name := "fnExactFarthestStates", fn := fun _ => fun
  | [d] => { results := [.lit (.bool true)], args := [d] }
  | _ => none }
def fnExactFarthestStatesRow : OpenClaim := { program := "ytamljjfhkolflaa", sum := "bdea6ed6a7a23bd098c09c78a59f416979dd13c9069902e03707e6e95fcc7a64", func := "loop.example/g01272/laws.FnExactFarthestStates", spec := "fnExactFarthestStates", unfollowed := true, recurses := true, apart := false }
def FnExactFarthestStatesSaid : Prop := fnExactFarthestStatesRow.holds Try.pinned (OpenSpec.ofChange fnExactFarthestStatesSpec)

/-- ITS FALSE NEIGHBOUR: 'it returns false'. Refute it at one input. -/
def fnExactFarthestStatesWrong : ChangeSpec := { name := "fnExactFarthestStates", fn := fun _ => fun
  | [d] => { results := [.lit (.bool false)], args := [d] }
  | _ => none }
def FnExactFarthestStatesWrongFalsely : Prop := fnExactFarthestStatesRow.holds Try.pinned (OpenSpec.ofChange fnExactFarthestStatesWrong)

/- THE SECOND FORM. 'bulk': how many values and letters a reading holds, each counted each time it is reached (what is shared counts as often as it is met; a slice's spare places count too). A statement '..UptoSaid' is the law's where the arguments, and the package variables that the reading takes, are together of bulk at most 1048576: NARROWER than '..Said'. Prove '..Said' where nothing that the law and all that it calls make is longer than what came in: it says more and counts as full. Else prove '..UptoSaid'. A law counts once. -/
mutual
def uptoBulk {H : Type} : DataW H → Nat
  | .lit (.string bytes) => bytes.length + 1
  | .lit _ => 1
  | .nil => 1
  | .ptr d => uptoBulk d + 1
  | .slice elems spare => uptoBulkAll elems + uptoBulkAll spare + 1
  | .agg parts => uptoBulkAll parts + 1
  | .iface _ d => uptoBulk d + 1
  | .map entries => uptoBulkEntries entries + 1
  | .held _ => 1
def uptoBulkAll {H : Type} : List (DataW H) → Nat
  | [] => 0
  | d :: r => uptoBulk d + uptoBulkAll r
def uptoBulkEntries {H : Type} : List (Lit × DataW H) → Nat
  | [] => 0
  | x :: r => uptoBulkEntry x + uptoBulkEntries r
def uptoBulkEntry {H : Type} : Lit × DataW H → Nat
  | (.string bytes, d) => bytes.length + uptoBulk d + 1
  | (_, d) => uptoBulk d + 1
 end
def uptoSmall : (H : Type) → List (DataW H) → Bool := fun _ ds => decide (uptoBulkAll ds ≤ 1048576)
def OpenSpec.upto (s : _root_.Go.ChangeSpec) : _root_.Go.OpenSpec := { _root_.Go.OpenSpec.ofChange s with cond := some uptoSmall }

/-- 'laws.FnExactReachedIn', WHERE WHAT IT READS IS OF BULK AT MOST 1048576: true; the input reads as it did. -/
def fnExactReachedInUptoRow : OpenClaim := { program := "ytamljjfhkolflaa", sum := "bdea6ed6a7a23bd098c09c78a59f416979dd13c9069902e03707e6e95fcc7a64", func := "loop.example/g01272/laws.FnExactReachedIn", spec := "fnExactReachedIn", unfollowed := true, recurses := true, apart := false, narrowed := true }
def FnExactReachedInUptoSaid : Prop := fnExactReachedInUptoRow.holds Try.pinned (OpenSpec.upto fnExactReachedInSpec)

/-- 'laws.FnExactLeastTime', WHERE WHAT IT READS IS OF BULK AT MOST 1048576: true; the input reads as it did. -/
def fnExactLeastTimeUptoRow : OpenClaim := { program := "ytamljjfhkolflaa", sum := "bdea6ed6a7a23bd098c09c78a59f416979dd13c9069902e03707e6e95fcc7a64", func := "loop.example/g01272/laws.FnExactLeastTime", spec := "fnExactLeastTime", unfollowed := true, recurses := true, apart := false, narrowed := true }
def FnExactLeastTimeUptoSaid : Prop := fnExactLeastTimeUptoRow.holds Try.pinned (OpenSpec.upto fnExactLeastTimeSpec)

/-- 'laws.FnExactFewestTrips', WHERE WHAT IT READS IS OF BULK AT MOST 1048576: true; the input reads as it did. -/
def fnExactFewestTripsUptoRow : OpenClaim := { program := "ytamljjfhkolflaa", sum := "bdea6ed6a7a23bd098c09c78a59f416979dd13c9069902e03707e6e95fcc7a64", func := "loop.example/g01272/laws.FnExactFewestTrips", spec := "fnExactFewestTrips", unfollowed := true, recurses := true, apart := false, narrowed := true }
def FnExactFewestTripsUptoSaid : Prop := fnExactFewestTripsUptoRow.holds Try.pinned (OpenSpec.upto fnExactFewestTripsSpec)

/-- 'laws.FnExactCountOnBest', WHERE WHAT IT READS IS OF BULK AT MOST 1048576: true; the input reads as it did. -/
def fnExactCountOnBestUptoRow : OpenClaim := { program := "ytamljjfhkolflaa", sum := "bdea6ed6a7a23bd098c09c78a59f416979dd13c9069902e03707e6e95fcc7a64", func := "loop.example/g01272/laws.FnExactCountOnBest", spec := "fnExactCountOnBest", unfollowed := true, recurses := true, apart := false, narrowed := true }
def FnExactCountOnBestUptoSaid : Prop := fnExactCountOnBestUptoRow.holds Try.pinned (OpenSpec.upto fnExactCountOnBestSpec)

/-- 'laws.FnExactCostOf', WHERE WHAT IT READS IS OF BULK AT MOST 1048576: true; the input reads as it did. -/
def fnExactCostOfUptoRow : OpenClaim := { program := "ytamljjfhkolflaa", sum := "bdea6ed6a7a23bd098c09c78a59f416979dd13c9069902e03707e6e95fcc7a64", func := "loop.example/g01272/laws.FnExactCostOf", spec := "fnExactCostOf", unfollowed := true, recurses := true, apart := false, narrowed := true }
def FnExactCostOfUptoSaid : Prop := fnExactCostOfUptoRow.holds Try.pinned (OpenSpec.upto fnExactCostOfSpec)

/-- 'laws.FnExactTimesBySeats', WHERE WHAT IT READS IS OF BULK AT MOST 1048576: true; the input reads as it did. -/
def fnExactTimesBySeatsUptoRow : OpenClaim := { program := "ytamljjfhkolflaa", sum := "bdea6ed6a7a23bd098c09c78a59f416979dd13c9069902e03707e6e95fcc7a64", func := "loop.example/g01272/laws.FnExactTimesBySeats", spec := "fnExactTimesBySeats", unfollowed := true, recurses := true, apart := false, narrowed := true }
def FnExactTimesBySeatsUptoSaid : Prop := fnExactTimesBySeatsUptoRow.holds Try.pinned (OpenSpec.upto fnExactTimesBySeatsSpec)

/-- 'laws.FnExactTimeTo', WHERE WHAT IT READS IS OF BULK AT MOST 1048576: true; the input reads as it did. -/
def fnExactTimeToUptoRow : OpenClaim := { program := "ytamljjfhkolflaa", sum := "bdea6ed6a7a23bd098c09c78a59f416979dd13c9069902e03707e6e95fcc7a64", func := "loop.example/g01272/laws.FnExactTimeTo", spec := "fnExactTimeTo", unfollowed := true, recurses := true, apart := false, narrowed := true }
def FnExactTimeToUptoSaid : Prop := fnExactTimeToUptoRow.holds Try.pinned (OpenSpec.upto fnExactTimeToSpec)

/-- 'laws.FnExactTimeFrom', WHERE WHAT IT READS IS OF BULK AT MOST 1048576: true; the input reads as it did. -/
def fnExactTimeFromUptoRow : OpenClaim := { program := "ytamljjfhkolflaa", sum := "bdea6ed6a7a23bd098c09c78a59f416979dd13c9069902e03707e6e95fcc7a64", func := "loop.example/g01272/laws.FnExactTimeFrom", spec := "fnExactTimeFrom", unfollowed := true, recurses := true, apart := false, narrowed := true }
def FnExactTimeFromUptoSaid : Prop := fnExactTimeFromUptoRow.holds Try.pinned (OpenSpec.upto fnExactTimeFromSpec)

/-- 'laws.FnExactBestFirstTrips', WHERE WHAT IT READS IS OF BULK AT MOST 1048576: true; the input reads as it did. -/
def fnExactBestFirstTripsUptoRow : OpenClaim := { program := "ytamljjfhkolflaa", sum := "bdea6ed6a7a23bd098c09c78a59f416979dd13c9069902e03707e6e95fcc7a64", func := "loop.example/g01272/laws.FnExactBestFirstTrips", spec := "fnExactBestFirstTrips", unfollowed := true, recurses := true, apart := false, narrowed := true }
def FnExactBestFirstTripsUptoSaid : Prop := fnExactBestFirstTripsUptoRow.holds Try.pinned (OpenSpec.upto fnExactBestFirstTripsSpec)

/-- 'laws.FnExactFewestOfBest', WHERE WHAT IT READS IS OF BULK AT MOST 1048576: true; the input reads as it did. -/
def fnExactFewestOfBestUptoRow : OpenClaim := { program := "ytamljjfhkolflaa", sum := "bdea6ed6a7a23bd098c09c78a59f416979dd13c9069902e03707e6e95fcc7a64", func := "loop.example/g01272/laws.FnExactFewestOfBest", spec := "fnExactFewestOfBest", unfollowed := true, recurses := true, apart := false, narrowed := true }
def FnExactFewestOfBestUptoSaid : Prop := fnExactFewestOfBestUptoRow.holds Try.pinned (OpenSpec.upto fnExactFewestOfBestSpec)

/-- 'laws.FnExactFirstBest', WHERE WHAT IT READS IS OF BULK AT MOST 1048576: true; the input reads as it did. -/
def fnExactFirstBestUptoRow : OpenClaim := { program := "ytamljjfhkolflaa", sum := "bdea6ed6a7a23bd098c09c78a59f416979dd13c9069902e03707e6e95fcc7a64", func := "loop.example/g01272/laws.FnExactFirstBest", spec := "fnExactFirstBest", unfollowed := true, recurses := true, apart := false, narrowed := true }
def FnExactFirstBestUptoSaid : Prop := fnExactFirstBestUptoRow.holds Try.pinned (OpenSpec.upto fnExactFirstBestSpec)

/-- 'laws.FnExactIsOnBest', WHERE WHAT IT READS IS OF BULK AT MOST 1048576: true; the input reads as it did. -/
def fnExactIsOnBestUptoRow : OpenClaim := { program := "ytamljjfhkolflaa", sum := "bdea6ed6a7a23bd098c09c78a59f416979dd13c9069902e03707e6e95fcc7a64", func := "loop.example/g01272/laws.FnExactIsOnBest", spec := "fnExactIsOnBest", unfollowed := true, recurses := true, apart := false, narrowed := true }
def FnExactIsOnBestUptoSaid : Prop := fnExactIsOnBestUptoRow.holds Try.pinned (OpenSpec.upto fnExactIsOnBestSpec)

/-- 'laws.FnExactFarthestStates', WHERE WHAT IT READS IS OF BULK AT MOST 1048576: true; the input reads as it did. -/
def fnExactFarthestStatesUptoRow : OpenClaim := { program := "ytamljjfhkolflaa", sum := "bdea6ed6a7a23bd098c09c78a59f416979dd13c9069902e03707e6e95fcc7a64", func := "loop.example/g01272/laws.FnExactFarthestStates", spec := "fnExactFarthestStates", unfollowed := true, recurses := true, apart := false, narrowed := true }
def FnExactFarthestStatesUptoSaid : Prop := fnExactFarthestStatesUptoRow.holds Try.pinned (OpenSpec.upto fnExactFarthestStatesSpec)

end Rows
end Go.Proofs.Ytamljjfhkolflaa
