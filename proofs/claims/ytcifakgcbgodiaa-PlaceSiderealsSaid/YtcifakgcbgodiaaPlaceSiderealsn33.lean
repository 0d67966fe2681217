/- Mul of intervals of numbers up to 10^9, and Unit of the sun. -/
import Derived.Test.YtcifakgcbgodiaaPlaceSiderealsn10
import Derived.Test.YtcifakgcbgodiaaPlaceSiderealsn11
import Derived.Test.YtcifakgcbgodiaaPlaceSiderealsn32
namespace Go.Proofs.Ytcifakgcbgodiaa.MulT
open Go.RowKit Go.Proofs.YtcifakgcbgodiaaW.PrintWords Go.Proofs.YtcifakgcbgodiaaW.PrintLast Go.Proofs.YtcifakgcbgodiaaW.PrintMore Go.Proofs.Ytcifakgcbgodiaa.PAll Go.Proofs.Ytcifakgcbgodiaa.Base Go.Proofs.Ytcifakgcbgodiaa.Turn Go.Proofs.Ytcifakgcbgodiaa.Over Go.Proofs.Ytcifakgcbgodiaa.Vals
set_option linter.unusedVariables false
set_option linter.unusedSimpArgs false
def inU (a : Int) : Prop := -1000000000 ≤ a ∧ a ≤ 1000000000
theorem prod_in {a b : Int} (ha : inU a) (hb : inU b) : -1000000000000000000 ≤ a * b ∧ a * b ≤ 1000000000000000000 := by
  obtain ⟨a1, a2⟩ := ha
  obtain ⟨b1, b2⟩ := hb
  rcases Int.lt_or_le b 0 with n | n
  · have k1 := Int.mul_le_mul_of_nonneg_right a1 (show 0 ≤ -b by omega)
    have k2 := Int.mul_le_mul_of_nonneg_right a2 (show 0 ≤ -b by omega)
    rw [Int.mul_neg, Int.mul_neg] at k1 k2
    constructor <;> omega
  · have k1 := Int.mul_le_mul_of_nonneg_right a1 n
    have k2 := Int.mul_le_mul_of_nonneg_right a2 n
    constructor <;> omega
end Go.Proofs.Ytcifakgcbgodiaa.MulT
