import Derived.Test.YtikjdmiohpdnaaaC2zx0
import Derived.Test.YtikjdmiohpdnaaaC2zH0
import Derived.Test.YtikjdmiohpdnaaaC2zH1
import Derived.Test.YtikjdmiohpdnaaaC2zQ0
import Derived.Test.YtikjdmiohpdnaaaC2zQ1
import Derived.Test.YtikjdmiohpdnaaaC2zQ2
import Derived.Test.YtikjdmiohpdnaaaC2zQ3
import Derived.Test.YtikjdmiohpdnaaaC2zQ4
namespace Go.Proofs.Ytikjdmiohpdnaaa.Pure
open Go.RowKit Go.Proofs.Ytikjdmiohpdnaaa.C2 Go.Proofs.Ytikjdmiohpdnaaa.H Go.Proofs.YtikjdmiohpdnaaaW.PrintWords Go.Proofs.YtikjdmiohpdnaaaW.PrintLast Go.Proofs.YtikjdmiohpdnaaaW.PrintMore
set_option linter.unusedVariables false
set_option linter.unusedSimpArgs false
theorem bits_or_n (a b : Nat) (ha : a < 4611686018427387904) (hb : b < 4611686018427387904) : Go.bits .or .i64 (a : Int) (b : Int) = ((a ||| b : Nat) : Int) := by
  have hx : a ||| b < 2 ^ 62 := Nat.or_lt_two_pow (by omega) (by omega)
  have h1 : (BitVec.ofInt 64 (a : Int)).toNat = a := by
    rw [BitVec.ofInt_natCast, BitVec.toNat_ofNat]; exact Nat.mod_eq_of_lt (by omega)
  have h2 : (BitVec.ofInt 64 (b : Int)).toNat = b := by
    rw [BitVec.ofInt_natCast, BitVec.toNat_ofNat]; exact Nat.mod_eq_of_lt (by omega)
  show IntKind.i64.wrap ((BitVec.ofInt 64 (a : Int) ||| BitVec.ofInt 64 (b : Int)).toNat : Int) = _
  rw [BitVec.toNat_or, h1, h2, i64_w, wr_id (by omega) (by omega)]
theorem shl_one (x : Int) (h0 : 0 ≤ x) (h : x < 40) : shl .i64 1 x = ((2 ^ x.toNat : Nat) : Int) := by
  have h2 : 2 ^ x.toNat < 2 ^ 40 := Nat.pow_lt_pow_right (by omega) (by omega)
  unfold shl
  rw [Nat.min_eq_left (show x.toNat ≤ IntKind.i64.bits by show x.toNat ≤ 64; omega), i64_w, Int.one_mul]
  rw [show ((2 : Int) ^ x.toNat) = ((2 ^ x.toNat : Nat) : Int) by simp]
  exact (show ∀ q : Nat, q < 2 ^ 40 → wrap64 (q : Int) = q from fun q hq => wr_id (by omega) (by omega)) _ h2
end Go.Proofs.Ytikjdmiohpdnaaa.Pure
