/- The reference's sine and cosine are no longer than the unit, but for 2500 units of 2 to the power of -60. -/
import Derived.Test.YtelcegpaakbppaaTrigArcSinsn21
namespace Go.Proofs.Ytelcegpaakbppaa.Norm
open Go.RowKit Go.Proofs.YtelcegpaakbppaaW.PrintWords Go.Proofs.YtelcegpaakbppaaW.PrintLast Go.Proofs.Ytelcegpaakbppaa.Opn Go.Proofs.Ytelcegpaakbppaa.PAll Go.Proofs.Ytelcegpaakbppaa.Base Go.Proofs.Ytelcegpaakbppaa.Turn Go.Proofs.Ytelcegpaakbppaa.Fix Go.Proofs.Ytelcegpaakbppaa.Oct Go.Proofs.Ytelcegpaakbppaa.OctT Go.Proofs.Ytelcegpaakbppaa.SinT Go.Proofs.Ytelcegpaakbppaa.RefT
set_option linter.unusedVariables false
set_option linter.unusedSimpArgs false
/-- One unit. -/
def q : Rat := 1 / 1152921504606846976
end Go.Proofs.Ytelcegpaakbppaa.Norm
