/- Numbers of six digits to the base 10^9, with a sign: plain laws. -/
import Derived.Test.YtelcegpaakbppaaAstrolabeStarsn16
namespace Go.Proofs.Ytelcegpaakbppaa.WideN
open Go.RowKit Go.Proofs.YtelcegpaakbppaaW.PrintWords Go.Proofs.Ytelcegpaakbppaa.Opn Go.Proofs.Ytelcegpaakbppaa.Base
set_option linter.unusedVariables false
set_option linter.unusedSimpArgs false
def dv (d0 d1 d2 d3 d4 d5 : Int) : Int := d0 + 1000000000 * d1 + 1000000000000000000 * d2 + 1000000000000000000000000000 * d3 + 1000000000000000000000000000000000000 * d4 + 1000000000000000000000000000000000000000000000 * d5
def Dig (d : Int) : Prop := 0 ≤ d ∧ d ≤ 999999999
def sg (x : Int) : Int := if x < 0 then -1 else if x = 0 then 0 else 1
def sv (n : Bool) (v : Int) : Int := if n = true then -v else v
theorem sg_neg {x : Int} (h : x < 0) : sg x = -1 := by unfold sg; rw [if_pos h]
theorem sg_zero {x : Int} (h : x = 0) : sg x = 0 := by unfold sg; rw [if_neg (by omega), if_pos h]
theorem sg_pos {x : Int} (h : 0 < x) : sg x = 1 := by unfold sg; rw [if_neg (by omega), if_neg (by omega)]
theorem prod_dig {a b : Int} (ha : Dig a) (hb : Dig b) : 0 ≤ a * b ∧ a * b ≤ 999999998000000001 := by
  obtain ⟨a0, a1⟩ := ha
  obtain ⟨b0, b1⟩ := hb
  constructor
  · exact Int.mul_nonneg a0 b0
  · have k1 := Int.mul_le_mul_of_nonneg_right a1 b0
    omega
theorem three_mul (a0 a1 a2 b0 b1 b2 : Int) : (a0 + 1000000000 * a1 + 1000000000000000000 * a2) * (b0 + 1000000000 * b1 + 1000000000000000000 * b2) =
    a0 * b0 + 1000000000 * (a0 * b1 + a1 * b0) + 1000000000000000000 * (a0 * b2 + a1 * b1 + a2 * b0) + 1000000000000000000000000000 * (a1 * b2 + a2 * b1) + 1000000000000000000000000000000000000 * (a2 * b2) := by grind
end Go.Proofs.Ytelcegpaakbppaa.WideN
