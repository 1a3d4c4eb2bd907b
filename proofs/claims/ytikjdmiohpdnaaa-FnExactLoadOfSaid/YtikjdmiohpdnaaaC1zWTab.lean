import Derived.Test.YtikjdmiohpdnaaaC1zWLast
import Derived.Test.YtikjdmiohpdnaaaC1zWWords
namespace Go.Proofs.YtikjdmiohpdnaaaW.PrintLast
open Go.Proofs.YtikjdmiohpdnaaaW.PrintWords (Aside0)
section
variable {md : Region.Mode} {ops : Array Oper} {T : Bool × List (List Nat × List Nat)} {l l' li lj lk : Array Bool} {ds : List Nat} {i j k : Nat}
end
end Go.Proofs.YtikjdmiohpdnaaaW.PrintLast
