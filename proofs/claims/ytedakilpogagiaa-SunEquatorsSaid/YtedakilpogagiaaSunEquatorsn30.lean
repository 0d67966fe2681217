/- The reference's sine and cosine are no longer than the unit, but for 2500 units of 2 to the power of -60. -/
import Derived.Test.YtedakilpogagiaaSunEquatorsn27
namespace Go.Proofs.Ytedakilpogagiaa.Norm
open Go.RowKit Go.Proofs.YtedakilpogagiaaW.PrintWords Go.Proofs.YtedakilpogagiaaW.PrintLast Go.Proofs.Ytedakilpogagiaa.Opn Go.Proofs.Ytedakilpogagiaa.PAll Go.Proofs.Ytedakilpogagiaa.Base Go.Proofs.Ytedakilpogagiaa.Turn Go.Proofs.Ytedakilpogagiaa.Fix Go.Proofs.Ytedakilpogagiaa.Oct Go.Proofs.Ytedakilpogagiaa.OctT Go.Proofs.Ytedakilpogagiaa.SinT Go.Proofs.Ytedakilpogagiaa.RefT
set_option linter.unusedVariables false
set_option linter.unusedSimpArgs false
def q : Rat := 1 / 1152921504606846976
end Go.Proofs.Ytedakilpogagiaa.Norm
