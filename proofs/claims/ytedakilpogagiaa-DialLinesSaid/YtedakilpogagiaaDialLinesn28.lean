/- Turned of the program and Arg of the reference: both tell rate * instant / DayLength, rounded down, without whole turns. -/
import Derived.Test.YtedakilpogagiaaDialLinesn27
namespace Go.Proofs.Ytedakilpogagiaa.Args
open Go.RowKit Go.Proofs.YtedakilpogagiaaW.PrintWords Go.Proofs.YtedakilpogagiaaW.PrintLast Go.Proofs.YtedakilpogagiaaW.PrintMore Go.Proofs.Ytedakilpogagiaa.Opn Go.Proofs.Ytedakilpogagiaa.PAll Go.Proofs.Ytedakilpogagiaa.Base Go.Proofs.Ytedakilpogagiaa.Turn Go.Proofs.Ytedakilpogagiaa.Fix Go.Proofs.Ytedakilpogagiaa.Oct Go.Proofs.Ytedakilpogagiaa.OctT Go.Proofs.Ytedakilpogagiaa.SinT Go.Proofs.Ytedakilpogagiaa.RefT Go.Proofs.Ytedakilpogagiaa.Circ Go.Proofs.Ytedakilpogagiaa.Over Go.Proofs.Ytedakilpogagiaa.Units
set_option linter.unusedVariables false
set_option linter.unusedSimpArgs false
theorem prod_in {a b A B : Int} (h0 : 0 ≤ a) (h1 : a ≤ A) (h2 : 0 ≤ b) (h3 : b ≤ B) : 0 ≤ a * b ∧ a * b ≤ A * B := ⟨Int.mul_nonneg h0 h2, Int.mul_le_mul h1 h3 h2 (by omega)⟩
end Go.Proofs.Ytedakilpogagiaa.Args
