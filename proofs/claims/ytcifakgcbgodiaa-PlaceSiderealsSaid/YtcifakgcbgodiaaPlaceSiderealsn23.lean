/- Numbers in the unit of 2 to the power of -60: products, and the sums of octant; how far they are from the rotations. -/
import Derived.Test.YtcifakgcbgodiaaPlaceSiderealsn4
import Derived.Test.YtcifakgcbgodiaaPlaceSiderealsn2
import Derived.Test.YtcifakgcbgodiaaPlaceSiderealsn21
import Derived.Test.YtcifakgcbgodiaaPlaceSiderealsn22
namespace Go.Proofs.Ytcifakgcbgodiaa.Fix
open Go.RowKit Go.Proofs.YtcifakgcbgodiaaW.PrintWords Go.Proofs.YtcifakgcbgodiaaW.PrintLast Go.Proofs.Ytcifakgcbgodiaa.Opn Go.Proofs.Ytcifakgcbgodiaa.PAll Go.Proofs.Ytcifakgcbgodiaa.Base Go.Proofs.Ytcifakgcbgodiaa.Turn
set_option linter.unusedVariables false
set_option linter.unusedSimpArgs false
theorem ilt_or (a b : Int) : a < b ∨ b ≤ a := by omega
theorem wrap_i64_nn (n : Int) (h0 : 0 ≤ n) (h1 : n < 2 ^ 63) : IntKind.i64.wrap n = n := by
  have e : IntKind.i64.wrap n = wrap64 n := by unfold wrap64; exact IntKind.wrap_i64 n
  rw [e]
  exact w64 (by omega) (by omega)
/-- The product of two fine numbers from 0 on. -/
def fm (a b : Int) : Int := (a / 1073741824) * (b / 1073741824) + ((a / 1073741824) * (b % 1073741824) + (a % 1073741824) * (b / 1073741824) + (a % 1073741824) * (b % 1073741824) / 1073741824) / 1073741824
/-- The reference's product. -/
def rm (a b : Int) : Int := (if (a < 0) = (b < 0) then 1 else -1) * fm (if a < 0 then -a else a) (if b < 0 then -b else b)
end Go.Proofs.Ytcifakgcbgodiaa.Fix
