import Derived.Test.YtpobeakggacdpaaC10zWWords
import Derived.Test.YtpobeakggacdpaaC10zWLast
import Derived.Test.YtpobeakggacdpaaC10zWTab
import Derived.Test.YtpobeakggacdpaaC10zWFour
import Derived.Test.YtpobeakggacdpaaC10zWQPut
import Derived.Test.YtpobeakggacdpaaC10zWApart
import Derived.Test.YtpobeakggacdpaaC10zWArr
import Derived.Test.YtpobeakggacdpaaC10zWZeros
import Derived.Test.YtpobeakggacdpaaC10zWFoot
import Derived.Test.YtpobeakggacdpaaC10zWKept
import Derived.Test.YtpobeakggacdpaaC10zWShare
import Derived.Test.YtpobeakggacdpaaC10zWN
import Derived.Test.YtpobeakggacdpaaC10zWFootNe
import Derived.Test.YtpobeakggacdpaaC10zWAt
import Derived.Test.YtpobeakggacdpaaC10zWEqStruct
import Derived.Test.YtpobeakggacdpaaC10zWRepsOne
import Derived.Test.YtpobeakggacdpaaC10zWInv
import Derived.Test.YtpobeakggacdpaaC10zWInvWords
import Derived.Test.YtpobeakggacdpaaC10zWGuard
import Derived.Test.YtpobeakggacdpaaC10zWNEv
import Derived.Test.YtpobeakggacdpaaC10zWMore
import Derived.Shelf.Abstract
namespace Go.Proofs.Ytpobeakggacdpaa.H
open Go.RowKit Go.Proofs.YtpobeakggacdpaaW.PrintWords Go.Proofs.YtpobeakggacdpaaW.PrintLast Go.Proofs.YtpobeakggacdpaaW.PrintMore
attribute [local go_sem] max2_int min2_int max_two min_two max_three min_three max_four min_four
set_option linter.unusedVariables false
set_option linter.unusedSimpArgs false
theorem size_drew_ (w : World) : w.drew.heap.size = w.heap.size := rfl
theorem size_drewN_ (w : World) (n : Nat) : (w.drewN n).heap.size = w.heap.size := rfl
theorem lay2 (w : World) (o0 o1 : Obj) : ((w.alloc o0).alloc o1).heap[w.heap.size]? = some o0 ∧ ((w.alloc o0).alloc o1).heap[w.heap.size + 1]? = some o1 ∧ Below w.heap.size w ((w.alloc o0).alloc o1) := by
  have s1 := World.size_alloc w o0
  refine ⟨blk_alloc (heap_alloc_new w o0) _, ?_, below_alloc (below_alloc (Below.refl _ _) _) _⟩
  have := heap_alloc_new (w.alloc o0) o1
  rwa [s1] at this
section
variable {α : Type} {d : Kd α} {e : Nat} {W w' wA : World} {v : Value} {xs : List α} {ok : Nat → Prop} {base : Nat}
theorem R_span (ho : d.R e w' W.heap.size ok v xs) (hb : Below W.heap.size W w') (hA : Below wA.heap.size wA W) : ∃ lo hi, lo = W.heap.size ∧ hi = w'.heap.size ∧ wA.heap.size ≤ lo ∧ lo ≤ hi ∧ d.R e w' wA.heap.size (fun k_ => lo ≤ k_ ∧ k_ < hi) v xs :=
  ⟨_, _, rfl, rfl, hA.size, hb.size, Kd.R_lower (Kd.R_mono (Kd.R_bound ho) (fun k hk => ⟨hk.2.1, hk.2.2.1⟩)) hA.size⟩
theorem S_span (ho : Kd.S d e w' W.heap.size ok v xs) (hb : Below W.heap.size W w') (hA : Below wA.heap.size wA W) : ∃ lo hi, lo = W.heap.size ∧ hi = w'.heap.size ∧ wA.heap.size ≤ lo ∧ lo ≤ hi ∧ Kd.S d e w' wA.heap.size (fun k_ => lo ≤ k_ ∧ k_ < hi) v xs :=
  ⟨_, _, rfl, rfl, hA.size, hb.size, Kd.S_lower (Kd.S_mono (Kd.S_bound ho) (fun k hk => ⟨hk.2.1, hk.2.2.1⟩)) hA.size⟩
end
section
variable {W : World} {g t : Nat} {x0 x1 : Value}
theorem put2 (h : W.heap[g]? = some (.cells #[x0, x1] t (0, 0))) (v0 v1 : Value) : W.cell? ⟨g, 0, none⟩ = some x0 ∧ W.frozen? ⟨g, 0, none⟩ = false ∧ (W.setCell ⟨g, 0, none⟩ v0).cell? ⟨g, 1, none⟩ = some x1 ∧ (W.setCell ⟨g, 0, none⟩ v0).frozen? ⟨g, 1, none⟩ = false :=
  ⟨(blk_cell h 0).trans rfl, blk_frozen h 0, (blk_cell (blk_put h 0 v0 rfl) 1).trans rfl, blk_frozen (blk_put h 0 v0 rfl) 1⟩
theorem put2_blk (h : W.heap[g]? = some (.cells #[x0, x1] t (0, 0))) (v0 v1 : Value) : ((W.setCell ⟨g, 0, none⟩ v0).setCell ⟨g, 1, none⟩ v1).heap[g]? = some (.cells #[v0, v1] t (0, 0)) := blk_put (blk_put h 0 v0 rfl) 1 v1 rfl
theorem put2_kept (W : World) (g : Nat) (v0 v1 : Value) : Kept W ((W.setCell ⟨g, 0, none⟩ v0).setCell ⟨g, 1, none⟩ v1) (fun k => k = g) := by
  have s : ∀ (w : World) (a : Addr) (v : Value), (w.setCell a v).heap.size = w.heap.size := World.size_setCell
  refine ⟨by rw [s, s]; exact Nat.le_refl _, fun i _ hn => ?_⟩
  rw [Below.heap_setCell _ _ _ i (by exact hn), Below.heap_setCell _ _ _ i (by exact hn)]
end
end Go.Proofs.Ytpobeakggacdpaa.H
