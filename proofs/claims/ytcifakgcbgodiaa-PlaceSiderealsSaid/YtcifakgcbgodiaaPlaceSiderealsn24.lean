/- octant against the rotation: sine and cosine, each within 84 units. -/
import Derived.Test.YtcifakgcbgodiaaPlaceSiderealsn4
import Derived.Test.YtcifakgcbgodiaaPlaceSiderealsn23
namespace Go.Proofs.Ytcifakgcbgodiaa.OctT
open Go.RowKit Go.Proofs.YtcifakgcbgodiaaW.PrintWords Go.Proofs.YtcifakgcbgodiaaW.PrintLast Go.Proofs.Ytcifakgcbgodiaa.Opn Go.Proofs.Ytcifakgcbgodiaa.PAll Go.Proofs.Ytcifakgcbgodiaa.Base Go.Proofs.Ytcifakgcbgodiaa.Turn Go.Proofs.Ytcifakgcbgodiaa.Fix
set_option linter.unusedVariables false
set_option linter.unusedSimpArgs false
/-- The unit's number. -/
def u : Rat := 1152921504606846976
section
end
end Go.Proofs.Ytcifakgcbgodiaa.OctT
