/- Sine and cosine of whole arguments, 10 ^ 15 in a turn, out of the rotation: sums, quarters, how they rise and fall, how fast they change. -/
import Derived.Test.YtedakilpogagiaaSharpenEarliersn27
namespace Go.Proofs.Ytedakilpogagiaa.Circ
open Turn OctT RefT
set_option linter.unusedVariables false
set_option linter.unusedSimpArgs false
def S (t : Int) : Rat := sinT (ag (t % 1000000000000000))
def C (t : Int) : Rat := cosT (ag (t % 1000000000000000))
end Go.Proofs.Ytedakilpogagiaa.Circ
