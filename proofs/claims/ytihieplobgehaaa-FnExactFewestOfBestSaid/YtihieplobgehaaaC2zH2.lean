import Derived.Test.YtihieplobgehaaaC2zWWords
import Derived.Test.YtihieplobgehaaaC2zWLast
import Derived.Test.YtihieplobgehaaaC2zWTab
import Derived.Test.YtihieplobgehaaaC2zWFour
import Derived.Test.YtihieplobgehaaaC2zWQPut
import Derived.Test.YtihieplobgehaaaC2zWApart
import Derived.Test.YtihieplobgehaaaC2zWArr
import Derived.Test.YtihieplobgehaaaC2zWZeros
import Derived.Test.YtihieplobgehaaaC2zWFoot
import Derived.Test.YtihieplobgehaaaC2zWKept
import Derived.Test.YtihieplobgehaaaC2zWShare
import Derived.Test.YtihieplobgehaaaC2zWN
import Derived.Test.YtihieplobgehaaaC2zWFootNe
import Derived.Test.YtihieplobgehaaaC2zWAt
import Derived.Test.YtihieplobgehaaaC2zWEqStruct
import Derived.Test.YtihieplobgehaaaC2zWRepsOne
import Derived.Test.YtihieplobgehaaaC2zWInv
import Derived.Test.YtihieplobgehaaaC2zWInvWords
import Derived.Test.YtihieplobgehaaaC2zWGuard
import Derived.Test.YtihieplobgehaaaC2zWNEv
import Derived.Test.YtihieplobgehaaaC2zWMore
import Derived.Shelf.Abstract
namespace Go.Proofs.Ytihieplobgehaaa.H
open Go.RowKit Go.Proofs.YtihieplobgehaaaW.PrintWords Go.Proofs.YtihieplobgehaaaW.PrintLast Go.Proofs.YtihieplobgehaaaW.PrintMore
attribute [local go_sem] max2_int min2_int max_two min_two max_three min_three max_four min_four
set_option linter.unusedVariables false
set_option linter.unusedSimpArgs false
theorem size_drew_ (w:World):w.drew.heap.size=w.heap.size:=rfl
theorem size_drewN_ (w:World) (n:Nat):(w.drewN n).heap.size=w.heap.size:=rfl
theorem lay1 (w:World) (o0:Obj):(w.alloc o0).heap[w.heap.size]? = some o0∧Below w.heap.size w (w.alloc o0):=⟨heap_alloc_new w o0,below_alloc (Below.refl _ _) _⟩
section
variable {α:Type} {d:Kd α} {e:Nat} {W w' wA:World} {v:Value} {xs:List α} {ok:Nat→Prop} {base:Nat}
theorem R_span (ho:d.R e w' W.heap.size ok v xs) (hb:Below W.heap.size W w') (hA:Below wA.heap.size wA W):∃ lo hi,lo=W.heap.size∧hi=w'.heap.size∧wA.heap.size≤lo∧lo≤hi∧d.R e w' wA.heap.size (fun k_=>lo≤k_∧k_ < hi) v xs :=
 ⟨_,_,rfl,rfl,hA.size,hb.size,Kd.R_lower (Kd.R_mono (Kd.R_bound ho) (fun k hk=>⟨hk.2.1,hk.2.2.1⟩)) hA.size⟩
end
end Go.Proofs.Ytihieplobgehaaa.H
