/-
  No cell of these rows narrows 'for every input' (looked for: loops, veiled, ifaces, maps, wideKeys, modest, calm, conditions, laid).
  DERIVED. THE GIVEN ROWS OF THIS SEAT. 2 by the template 'for every input the law returns true; each argument reads behind the call as it read before'; 0 by the template 'total and deterministic' (their statements: YtabhhkiipilghaaTotals.lean).
  GIVEN WITH THE SEED: the statements are not yours to turn. If you find one false, say at which input.
  Laid BY PROGRAM, IN A SANDBOX (cutbox-rows.mjs): the forced cells as the released guide's own fill.sh prints them over the translation ece294343f4e57d4… (all of the seat's roots in one cut). By AI agents, Wed Nov 11 2026. No macro, syntax, notation, axiom, sorry.
-/
import Derived.Test.YtabhhkiipilghaaChecked
import GoSem.Claim
import GoSem.ClaimJoined
import GoSem.ClaimMapViews
import Derived.JoinedTies
import Derived.KernelRfl
namespace Go.Proofs.Ytabhhkiipilghaa
/- THE CELL 'sum', in the pinned program and in every row, IS THE sha256 OF THE DUMP (.gsa) THAT YtabhhkiipilghaaProg.lean LOADS. Nothing in Lean hashes anything: it is a label: what it is worth is what the hold of that sum in a sandbox is worth. -/
noncomputable def Try.pinned : Pinned := { name := "ytabhhkiipilghaa", sum := "ece294343f4e57d44b406cf06b573b9575a92133bd581e2629fc4f36f467ce09", checked := Try.checked }
namespace Rows
def none {H : Type} : Left H := { results := [], args := [] }

/-- 'laws.FnGuardsOverOfAll': WHATEVER THE INPUT: true; the input reads as it did. -/
def fnGuardsOverOfAllSpec : ChangeSpec := { name := "fnGuardsOverOfAll", fn := fun _ => fun
  | [d1, d2, d3, d4, d5] => { results := [.lit (.bool true)], args := [d1, d2, d3, d4, d5] }
  | _ => none }
def fnGuardsOverOfAllRow : OpenClaim := { program := "ytabhhkiipilghaa", sum := "ece294343f4e57d44b406cf06b573b9575a92133bd581e2629fc4f36f467ce09", func := "loop.example/g01272/laws.FnGuardsOverOfAll", spec := "fnGuardsOverOfAll", unfollowed := true, recurses := true, apart := false }
def FnGuardsOverOfAllSaid : Prop := fnGuardsOverOfAllRow.holds Try.pinned (OpenSpec.ofChange fnGuardsOverOfAllSpec)

/-- ITS FALSE NEIGHBOUR: 'it returns false'. Refute it at one input. -/
def fnGuardsOverOfAllWrong : ChangeSpec := { name := "fnGuardsOverOfAll", fn := fun _ => fun
  | [d1, d2, d3, d4, d5] => { results := [.lit (.bool false)], args := [d1, d2, d3, d4, d5] }
  | _ => none }
def FnGuardsOverOfAllWrongFalsely : Prop := fnGuardsOverOfAllRow.holds Try.pinned (OpenSpec.ofChange fnGuardsOverOfAllWrong)

/-- 'laws.FnCouplesCalmOfAll': WHATEVER THE INPUT: true; the input reads as it did. -/
def fnCouplesCalmOfAllSpec : ChangeSpec := { name := "fnCouplesCalmOfAll", fn := fun _ => fun
  | [d1, d2, d3, d4, d5, d6, d7] => { results := [.lit (.bool true)], args := [d1, d2, d3, d4, d5, d6, d7] }
  | _ => none }
def fnCouplesCalmOfAllRow : OpenClaim := { program := "ytabhhkiipilghaa", sum := "ece294343f4e57d44b406cf06b573b9575a92133bd581e2629fc4f36f467ce09", func := "loop.example/g01272/laws.FnCouplesCalmOfAll", spec := "fnCouplesCalmOfAll", unfollowed := true, recurses := true, apart := false }
def FnCouplesCalmOfAllSaid : Prop := fnCouplesCalmOfAllRow.holds Try.pinned (OpenSpec.ofChange fnCouplesCalmOfAllSpec)

/-- ITS FALSE NEIGHBOUR: 'it returns false'. Refute it at one input. -/
def fnCouplesCalmOfAllWrong : ChangeSpec := { name := "fnCouplesCalmOfAll", fn := fun _ => fun
  | [d1, d2, d3, d4, d5, d6, d7] => { results := [.lit (.bool false)], args := [d1, d2, d3, d4, d5, d6, d7] }
  | _ => none }
def FnCouplesCalmOfAllWrongFalsely : Prop := fnCouplesCalmOfAllRow.holds Try.pinned (OpenSpec.ofChange fnCouplesCalmOfAllWrong)

/- THE SECOND FORM. 'bulk': how many values and letters a reading holds, each counted each time it is reached (what is shared counts as often as it is met; a slice's spare places count too). A statement '..UptoSaid' is the law's where the arguments, and the package variables that the reading takes, are together of bulk at most 1048576: NARROWER than '..Said'. Prove '..Said' where nothing that the law and all that it calls make is longer than what came in: it says more and counts as full. Else prove '..UptoSaid'. A law counts once. -/
mutual
def uptoBulk {H : Type} : DataW H → Nat
  | .lit (.string bytes) => bytes.length + 1
  | .lit _ => 1
  | .nil => 1
  | .ptr d => uptoBulk d + 1
  | .slice elems spare => uptoBulkAll elems + uptoBulkAll spare + 1
  | .agg parts => uptoBulkAll parts + 1
  | .iface _ d => uptoBulk d + 1
  | .map entries => uptoBulkEntries entries + 1
  | .held _ => 1
def uptoBulkAll {H : Type} : List (DataW H) → Nat
  | [] => 0
  | d :: r => uptoBulk d + uptoBulkAll r
def uptoBulkEntries {H : Type} : List (Lit × DataW H) → Nat
  | [] => 0
  | x :: r => uptoBulkEntry x + uptoBulkEntries r
def uptoBulkEntry {H : Type} : Lit × DataW H → Nat
  | (.string bytes, d) => bytes.length + uptoBulk d + 1
  | (_, d) => uptoBulk d + 1
 end
def uptoSmall : (H : Type) → List (DataW H) → Bool := fun _ ds => decide (uptoBulkAll ds ≤ 1048576)
def OpenSpec.upto (s : _root_.Go.ChangeSpec) : _root_.Go.OpenSpec := { _root_.Go.OpenSpec.ofChange s with cond := some uptoSmall }

/-- 'laws.FnGuardsOverOfAll', WHERE WHAT IT READS IS OF BULK AT MOST 1048576: true; the input reads as it did. -/
def fnGuardsOverOfAllUptoRow : OpenClaim := { program := "ytabhhkiipilghaa", sum := "ece294343f4e57d44b406cf06b573b9575a92133bd581e2629fc4f36f467ce09", func := "loop.example/g01272/laws.FnGuardsOverOfAll", spec := "fnGuardsOverOfAll", unfollowed := true, recurses := true, apart := false, narrowed := true }
def FnGuardsOverOfAllUptoSaid : Prop := fnGuardsOverOfAllUptoRow.holds Try.pinned (OpenSpec.upto fnGuardsOverOfAllSpec)

/-- 'laws.FnCouplesCalmOfAll', WHERE WHAT IT READS IS OF BULK AT MOST 1048576: true; the input reads as it did. -/
def fnCouplesCalmOfAllUptoRow : OpenClaim := { program := "ytabhhkiipilghaa", sum := "ece294343f4e57d44b406cf06b573b9575a92133bd581e2629fc4f36f467ce09", func := "loop.example/g01272/laws.FnCouplesCalmOfAll", spec := "fnCouplesCalmOfAll", unfollowed := true, recurses := true, apart := false, narrowed := true }
def FnCouplesCalmOfAllUptoSaid : Prop := fnCouplesCalmOfAllUptoRow.holds Try.pinned (OpenSpec.upto fnCouplesCalmOfAllSpec)

end Rows
end Go.Proofs.Ytabhhkiipilghaa
