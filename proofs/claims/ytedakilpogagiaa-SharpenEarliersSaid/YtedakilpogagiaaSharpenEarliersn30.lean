/- The reference's sine and cosine are no longer than the unit, but for 2500 units of 2 to the power of -60. -/
import Derived.Test.YtedakilpogagiaaSharpenEarliersn27
namespace Go.Proofs.Ytedakilpogagiaa.Norm
open Go.RowKit YtedakilpogagiaaW.PrintWords YtedakilpogagiaaW.PrintLast Opn PAll Base Turn Fix OctT RefT
set_option linter.unusedVariables false
set_option linter.unusedSimpArgs false
def q : Rat := 1 / 1152921504606846976
end Go.Proofs.Ytedakilpogagiaa.Norm
