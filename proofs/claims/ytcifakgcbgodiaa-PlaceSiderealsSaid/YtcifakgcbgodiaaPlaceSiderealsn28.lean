/- SinOver and CosOver: what they tell holds the sines of all arguments of an interval, and is narrow. -/
import Derived.Test.YtcifakgcbgodiaaPlaceSiderealsn5
import Derived.Test.YtcifakgcbgodiaaPlaceSiderealsn6
import Derived.Test.YtcifakgcbgodiaaPlaceSiderealsn10
import Derived.Test.YtcifakgcbgodiaaPlaceSiderealsn27
namespace Go.Proofs.Ytcifakgcbgodiaa.Over
open Go.RowKit Go.Proofs.YtcifakgcbgodiaaW.PrintWords Go.Proofs.YtcifakgcbgodiaaW.PrintLast Go.Proofs.Ytcifakgcbgodiaa.Opn Go.Proofs.Ytcifakgcbgodiaa.PAll Go.Proofs.Ytcifakgcbgodiaa.Base Go.Proofs.Ytcifakgcbgodiaa.Turn Go.Proofs.Ytcifakgcbgodiaa.Fix Go.Proofs.Ytcifakgcbgodiaa.OctT Go.Proofs.Ytcifakgcbgodiaa.SinT Go.Proofs.Ytcifakgcbgodiaa.RefT Go.Proofs.Ytcifakgcbgodiaa.Circ
set_option linter.unusedVariables false
set_option linter.unusedSimpArgs false
/-- What a pair of bounds is found to be. -/
def sp (a b : Int) : Int := if a < -1000000000000000000 ∨ a > 1000000000000000000 ∨ b < -1000000000000000000 ∨ b > 1000000000000000000 then 3 else if b < a then 9 else 0
end Go.Proofs.Ytcifakgcbgodiaa.Over
