/- Scale, and sums of terms: the program's intervals hold the reference's sums. -/
import Derived.Test.YtedakilpogagiaaSharpenEarliersn10
import Derived.Test.YtedakilpogagiaaSharpenEarliersn31
import Derived.Test.YtedakilpogagiaaSharpenEarliersn32
namespace Go.Proofs.Ytedakilpogagiaa.Vals
open Go.RowKit YtedakilpogagiaaW.PrintWords YtedakilpogagiaaW.PrintLast YtedakilpogagiaaW.PrintMore Opn PAll Base Turn Fix OctT RefT Circ Over Units SumsT
set_option linter.unusedVariables false
set_option linter.unusedSimpArgs false
def it (t : Int) : Int := if -345600000000000 ≤ t ∧ t < 345600086400000 then 0 else 3
end Go.Proofs.Ytedakilpogagiaa.Vals
