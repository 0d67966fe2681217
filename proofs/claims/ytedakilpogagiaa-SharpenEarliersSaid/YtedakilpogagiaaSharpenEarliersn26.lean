/- octant against the rotation: sine and cosine, each within 84 units. -/
import Derived.Test.YtedakilpogagiaaSharpenEarliersn25
namespace Go.Proofs.Ytedakilpogagiaa.OctT
open Go.RowKit YtedakilpogagiaaW.PrintWords YtedakilpogagiaaW.PrintLast Opn PAll Base Turn Fix
set_option linter.unusedVariables false
set_option linter.unusedSimpArgs false
def u : Rat := 1152921504606846976
section
end
end Go.Proofs.Ytedakilpogagiaa.OctT
