import Derived.Test.YtmfofjloklafoaaC7zWWords
import Derived.Test.YtmfofjloklafoaaC7zWLast
import Derived.Test.YtmfofjloklafoaaC7zWTab
import Derived.Test.YtmfofjloklafoaaC7zWFour
import Derived.Test.YtmfofjloklafoaaC7zWQPut
import Derived.Test.YtmfofjloklafoaaC7zWApart
import Derived.Test.YtmfofjloklafoaaC7zWArr
import Derived.Test.YtmfofjloklafoaaC7zWZeros
import Derived.Test.YtmfofjloklafoaaC7zWFoot
import Derived.Test.YtmfofjloklafoaaC7zWKept
import Derived.Test.YtmfofjloklafoaaC7zWShare
import Derived.Test.YtmfofjloklafoaaC7zWN
import Derived.Test.YtmfofjloklafoaaC7zWFootNe
import Derived.Test.YtmfofjloklafoaaC7zWAt
import Derived.Test.YtmfofjloklafoaaC7zWEqStruct
import Derived.Test.YtmfofjloklafoaaC7zWRepsOne
import Derived.Test.YtmfofjloklafoaaC7zWInv
import Derived.Test.YtmfofjloklafoaaC7zWInvWords
import Derived.Test.YtmfofjloklafoaaC7zWGuard
import Derived.Test.YtmfofjloklafoaaC7zWNEv
import Derived.Test.YtmfofjloklafoaaC7zWMore
import Derived.Shelf.Abstract
namespace Go.Proofs.Ytmfofjloklafoaa.H
open Go.RowKit Go.Proofs.YtmfofjloklafoaaW.PrintWords Go.Proofs.YtmfofjloklafoaaW.PrintLast Go.Proofs.YtmfofjloklafoaaW.PrintMore
attribute [local go_sem] max2_int min2_int max_two min_two max_three min_three max_four min_four
set_option linter.unusedVariables false
set_option linter.unusedSimpArgs false
theorem size_drew_ (w : World) : w.drew.heap.size = w.heap.size := rfl
theorem size_drewN_ (w : World) (n : Nat) : (w.drewN n).heap.size = w.heap.size := rfl
theorem lay2 (w : World) (o0 o1 : Obj) : ((w.alloc o0).alloc o1).heap[w.heap.size]? = some o0 ∧ ((w.alloc o0).alloc o1).heap[w.heap.size + 1]? = some o1 ∧ Below w.heap.size w ((w.alloc o0).alloc o1) := by
  have s1 := World.size_alloc w o0
  refine ⟨blk_alloc (heap_alloc_new w o0) _, ?_, below_alloc (below_alloc (Below.refl _ _) _) _⟩
  have := heap_alloc_new (w.alloc o0) o1
  rwa [s1] at this
section
variable {α : Type} {d : Kd α} {e : Nat} {W w' wA : World} {v : Value} {xs : List α} {ok : Nat → Prop} {base : Nat}
theorem R_span (ho : d.R e w' W.heap.size ok v xs) (hb : Below W.heap.size W w') (hA : Below wA.heap.size wA W) : ∃ lo hi, lo = W.heap.size ∧ hi = w'.heap.size ∧ wA.heap.size ≤ lo ∧ lo ≤ hi ∧ d.R e w' wA.heap.size (fun k_ => lo ≤ k_ ∧ k_ < hi) v xs :=
  ⟨_, _, rfl, rfl, hA.size, hb.size, Kd.R_lower (Kd.R_mono (Kd.R_bound ho) (fun k hk => ⟨hk.2.1, hk.2.2.1⟩)) hA.size⟩
theorem S_span (ho : Kd.S d e w' W.heap.size ok v xs) (hb : Below W.heap.size W w') (hA : Below wA.heap.size wA W) : ∃ lo hi, lo = W.heap.size ∧ hi = w'.heap.size ∧ wA.heap.size ≤ lo ∧ lo ≤ hi ∧ Kd.S d e w' wA.heap.size (fun k_ => lo ≤ k_ ∧ k_ < hi) v xs :=
  ⟨_, _, rfl, rfl, hA.size, hb.size, Kd.S_lower (Kd.S_mono (Kd.S_bound ho) (fun k hk => ⟨hk.2.1, hk.2.2.1⟩)) hA.size⟩
theorem S_foot (ho : Kd.S d e w' base ok v xs) : ∃ A c s, v = .slice A xs.length c ∧ s ≤ w'.heap.size ∧ xs.length ≤ c ∧ Kd.F d w' (fun k_ => k_ < s) A xs.length xs := by
  obtain ⟨A, c, rfl, hl, _⟩ := Kd.S_reads ho
  exact ⟨A, c, _, rfl, Nat.le_refl _, hl, Kd.F_mono (Kd.F_bound (Kd.S_F ho)) (fun k hk => hk.2)⟩
theorem N_foot (ho : Kd.N d e w' base ok v xs) : ∃ A c s, v = .slice A xs.length c ∧ s ≤ w'.heap.size ∧ xs.length ≤ c ∧ Kd.F d w' (fun k_ => k_ < s) A xs.length xs := by
  obtain ⟨A, c, rfl, hl, _⟩ := Kd.N_reads ho
  exact ⟨A, c, _, rfl, Nat.le_refl _, hl, Kd.F_mono (Kd.F_bound (Kd.N_F ho)) (fun k hk => hk.2)⟩
end
end Go.Proofs.Ytmfofjloklafoaa.H
