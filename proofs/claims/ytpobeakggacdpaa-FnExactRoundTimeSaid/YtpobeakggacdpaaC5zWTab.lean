import Derived.Test.YtpobeakggacdpaaC5zWLast
import Derived.Test.YtpobeakggacdpaaC5zWWords
namespace Go.Proofs.YtpobeakggacdpaaW.PrintLast
open Go.Proofs.YtpobeakggacdpaaW.PrintWords (Aside0)
section
variable {md : Region.Mode} {ops : Array Oper} {T : Bool × List (List Nat × List Nat)} {l l' li lj lk : Array Bool} {ds : List Nat} {i j k : Nat}
end
end Go.Proofs.YtpobeakggacdpaaW.PrintLast
