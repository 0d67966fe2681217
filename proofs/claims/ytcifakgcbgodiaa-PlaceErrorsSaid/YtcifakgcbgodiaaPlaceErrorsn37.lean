/- The longitudes of the sun and the moon, the latitude of the moon: the program's intervals hold the reference's numbers. -/
import Derived.Test.YtcifakgcbgodiaaPlaceErrorsn2
import Derived.Test.YtcifakgcbgodiaaPlaceErrorsn34
namespace Go.Proofs.Ytcifakgcbgodiaa.SkyT
open Go.RowKit Go.Proofs.YtcifakgcbgodiaaW.PrintWords Go.Proofs.YtcifakgcbgodiaaW.PrintLast Go.Proofs.YtcifakgcbgodiaaW.PrintMore Go.Proofs.Ytcifakgcbgodiaa.Opn Go.Proofs.Ytcifakgcbgodiaa.PAll Go.Proofs.Ytcifakgcbgodiaa.Base Go.Proofs.Ytcifakgcbgodiaa.Over Go.Proofs.Ytcifakgcbgodiaa.RefT Go.Proofs.Ytcifakgcbgodiaa.Units Go.Proofs.Ytcifakgcbgodiaa.Args Go.Proofs.Ytcifakgcbgodiaa.SumsT Go.Proofs.Ytcifakgcbgodiaa.Vals
set_option linter.unusedVariables false
set_option linter.unusedSimpArgs false
theorem none_at (e : Int) : ephemerislaw2_none.f 0 0 e e = some true := by unfold ephemerislaw2_none.f; simp
end Go.Proofs.Ytcifakgcbgodiaa.SkyT
