import Derived.Test.YtdomojenlofieaaC2zWWords
import Derived.Test.YtdomojenlofieaaC2zWLast
import Derived.Test.YtdomojenlofieaaC2zWTab
import Derived.Test.YtdomojenlofieaaC2zWFour
import Derived.Test.YtdomojenlofieaaC2zWQPut
import Derived.Test.YtdomojenlofieaaC2zWApart
import Derived.Test.YtdomojenlofieaaC2zWArr
import Derived.Test.YtdomojenlofieaaC2zWZeros
import Derived.Test.YtdomojenlofieaaC2zWFoot
import Derived.Test.YtdomojenlofieaaC2zWKept
import Derived.Test.YtdomojenlofieaaC2zWShare
import Derived.Test.YtdomojenlofieaaC2zWN
import Derived.Test.YtdomojenlofieaaC2zWFootNe
import Derived.Test.YtdomojenlofieaaC2zWAt
import Derived.Test.YtdomojenlofieaaC2zWEqStruct
import Derived.Test.YtdomojenlofieaaC2zWRepsOne
import Derived.Test.YtdomojenlofieaaC2zWInv
import Derived.Test.YtdomojenlofieaaC2zWInvWords
import Derived.Test.YtdomojenlofieaaC2zWGuard
import Derived.Test.YtdomojenlofieaaC2zWNEv
import Derived.Test.YtdomojenlofieaaC2zWMore
import Derived.Shelf.Abstract
namespace Go.Proofs.Ytdomojenlofieaa.H
open Go.RowKit Go.Proofs.YtdomojenlofieaaW.PrintWords Go.Proofs.YtdomojenlofieaaW.PrintLast Go.Proofs.YtdomojenlofieaaW.PrintMore
attribute [local go_sem] max2_int min2_int max_two min_two max_three min_three max_four min_four
set_option linter.unusedVariables false
set_option linter.unusedSimpArgs false
theorem size_drew_ (w:World):w.drew.heap.size=w.heap.size:=rfl
theorem size_drewN_ (w:World) (n:Nat):(w.drewN n).heap.size=w.heap.size:=rfl
theorem lay2 (w:World) (o0 o1:Obj):((w.alloc o0).alloc o1).heap[w.heap.size]? = some o0∧((w.alloc o0).alloc o1).heap[w.heap.size+1]? = some o1∧Below w.heap.size w ((w.alloc o0).alloc o1):=by
 have s1:=World.size_alloc w o0
 refine ⟨blk_alloc (heap_alloc_new w o0) _,?_,below_alloc (below_alloc (Below.refl _ _) _) _⟩
 have:=heap_alloc_new (w.alloc o0) o1
 rwa [s1] at this
section
variable {α:Type} {d:Kd α} {e:Nat} {W w' wA:World} {v:Value} {xs:List α} {ok:Nat→Prop} {base:Nat}
theorem R_span (ho:d.R e w' W.heap.size ok v xs) (hb:Below W.heap.size W w') (hA:Below wA.heap.size wA W):∃ lo hi,lo=W.heap.size∧hi=w'.heap.size∧wA.heap.size≤lo∧lo≤hi∧d.R e w' wA.heap.size (fun k_=>lo≤k_∧k_ < hi) v xs :=
 ⟨_,_,rfl,rfl,hA.size,hb.size,Kd.R_lower (Kd.R_mono (Kd.R_bound ho) (fun k hk=>⟨hk.2.1,hk.2.2.1⟩)) hA.size⟩
theorem S_span (ho:Kd.S d e w' W.heap.size ok v xs) (hb:Below W.heap.size W w') (hA:Below wA.heap.size wA W):∃ lo hi,lo=W.heap.size∧hi=w'.heap.size∧wA.heap.size≤lo∧lo≤hi∧Kd.S d e w' wA.heap.size (fun k_=>lo≤k_∧k_ < hi) v xs :=
 ⟨_,_,rfl,rfl,hA.size,hb.size,Kd.S_lower (Kd.S_mono (Kd.S_bound ho) (fun k hk=>⟨hk.2.1,hk.2.2.1⟩)) hA.size⟩
end
end Go.Proofs.Ytdomojenlofieaa.H
