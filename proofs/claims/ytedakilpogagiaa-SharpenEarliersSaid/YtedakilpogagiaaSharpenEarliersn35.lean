/- phase.Find: the elongation passes the value of the phase within the interval that it tells. -/
import Derived.Test.YtedakilpogagiaaSharpenEarliersn34
import Derived.Test.YtedakilpogagiaaSharpenEarliersn16
namespace Go.Proofs.Ytedakilpogagiaa.PhaseT
open Go Go.RowKit YtedakilpogagiaaW.PrintWords YtedakilpogagiaaW.PrintLast YtedakilpogagiaaW.PrintMore Opn PAll Base Over RefT SumsT Vals SlpT
set_option linter.unusedVariables false
set_option linter.unusedSimpArgs false
def md (L q : Int) : Int := 977949455 + 2551442878 * L + 637860719 * q
end Go.Proofs.Ytedakilpogagiaa.PhaseT
