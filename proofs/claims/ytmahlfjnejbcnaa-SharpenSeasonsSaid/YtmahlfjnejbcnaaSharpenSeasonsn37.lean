/- The longitudes of the sun and the moon, the latitude of the moon: the program's intervals hold the reference's numbers. -/
import Derived.Test.YtmahlfjnejbcnaaSharpenSeasonsn19
import Derived.Test.YtmahlfjnejbcnaaSharpenSeasonsn36
namespace Go.Proofs.Ytmahlfjnejbcnaa.SkyT
open Go.RowKit YtmahlfjnejbcnaaW.PrintWords YtmahlfjnejbcnaaW.PrintLast YtmahlfjnejbcnaaW.PrintMore Opn PAll Base Over RefT Units Args SumsT Vals
set_option linter.unusedVariables false
set_option linter.unusedSimpArgs false
theorem none_at (e : Int) : ephemerislaw2_none.f 0 0 e e = some true := by unfold ephemerislaw2_none.f; simp
end Go.Proofs.Ytmahlfjnejbcnaa.SkyT
