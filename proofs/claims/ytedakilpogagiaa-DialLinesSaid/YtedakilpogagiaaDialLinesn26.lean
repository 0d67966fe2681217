/- The reference's sine and cosine are no longer than the unit, but for 2500 units of 2 to the power of -60. -/
import Derived.Test.YtedakilpogagiaaDialLinesn23
namespace Go.Proofs.Ytedakilpogagiaa.Norm
open Go.RowKit Go.Proofs.YtedakilpogagiaaW.PrintWords Go.Proofs.YtedakilpogagiaaW.PrintLast Go.Proofs.Ytedakilpogagiaa.Opn Go.Proofs.Ytedakilpogagiaa.PAll Go.Proofs.Ytedakilpogagiaa.Base Go.Proofs.Ytedakilpogagiaa.Turn Go.Proofs.Ytedakilpogagiaa.Fix Go.Proofs.Ytedakilpogagiaa.Oct Go.Proofs.Ytedakilpogagiaa.OctT Go.Proofs.Ytedakilpogagiaa.SinT Go.Proofs.Ytedakilpogagiaa.RefT
set_option linter.unusedVariables false
set_option linter.unusedSimpArgs false
def q : Rat := 1 / 1152921504606846976
theorem q_eq : q * 1152921504606846976 = 1 := by decide +kernel
theorem q_pos : 0 ≤ q := by decide +kernel
theorem scaled {s : Int} {S E : Rat} (h1 : -E ≤ (s : Rat) - u * S) (h2 : (s : Rat) - u * S ≤ E) : -(E * q) ≤ (s : Rat) * q - S ∧ (s : Rat) * q - S ≤ E * q := by
 have k1 := Rat.mul_le_mul_of_nonneg_left h1 q_pos
 have k2 := Rat.mul_le_mul_of_nonneg_left h2 q_pos
 have hq := q_eq
 rw [u_eq] at *
 have e : q * ((s : Rat) - 1152921504606846976 * S) = (s : Rat) * q - S := by grind
 rw [e] at k1 k2
 clear e h1 h2
 constructor <;> grind
end Go.Proofs.Ytedakilpogagiaa.Norm
