/- The reference's sine and cosine are no longer than the unit, but for 2500 units of 2 to the power of -60. -/
import Derived.Test.YtcifakgcbgodiaaPlaceSiderealsn2
import Derived.Test.YtcifakgcbgodiaaPlaceSiderealsn26
namespace Go.Proofs.Ytcifakgcbgodiaa.Norm
open Go.RowKit Go.Proofs.YtcifakgcbgodiaaW.PrintWords Go.Proofs.YtcifakgcbgodiaaW.PrintLast Go.Proofs.Ytcifakgcbgodiaa.Opn Go.Proofs.Ytcifakgcbgodiaa.PAll Go.Proofs.Ytcifakgcbgodiaa.Base Go.Proofs.Ytcifakgcbgodiaa.Turn Go.Proofs.Ytcifakgcbgodiaa.Fix Go.Proofs.Ytcifakgcbgodiaa.OctT Go.Proofs.Ytcifakgcbgodiaa.SinT Go.Proofs.Ytcifakgcbgodiaa.RefT
set_option linter.unusedVariables false
set_option linter.unusedSimpArgs false
/-- One unit. -/
def q : Rat := 1 / 1152921504606846976
end Go.Proofs.Ytcifakgcbgodiaa.Norm
