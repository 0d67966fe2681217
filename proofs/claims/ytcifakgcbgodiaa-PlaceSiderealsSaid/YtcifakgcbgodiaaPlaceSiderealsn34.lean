/- The longitudes of the sun and the moon, the latitude of the moon: the program's intervals hold the reference's numbers. -/
import Derived.Test.YtcifakgcbgodiaaPlaceSiderealsn2
import Derived.Test.YtcifakgcbgodiaaPlaceSiderealsn32
namespace Go.Proofs.Ytcifakgcbgodiaa.SkyT
open Go.RowKit Go.Proofs.YtcifakgcbgodiaaW.PrintWords Go.Proofs.YtcifakgcbgodiaaW.PrintLast Go.Proofs.YtcifakgcbgodiaaW.PrintMore Go.Proofs.Ytcifakgcbgodiaa.Opn Go.Proofs.Ytcifakgcbgodiaa.PAll Go.Proofs.Ytcifakgcbgodiaa.Base Go.Proofs.Ytcifakgcbgodiaa.Over Go.Proofs.Ytcifakgcbgodiaa.RefT Go.Proofs.Ytcifakgcbgodiaa.Args Go.Proofs.Ytcifakgcbgodiaa.SumsT Go.Proofs.Ytcifakgcbgodiaa.Vals
set_option linter.unusedVariables false
set_option linter.unusedSimpArgs false
theorem none_at (e : Int) : ephemerislaw2_none.f 0 0 e e = some true := by unfold ephemerislaw2_none.f; simp
theorem contAngle_at {al ah d w : Int} (a0 : 0 ≤ al) (a1 : al < 1000000000) (d0 : 0 ≤ d) (d1 : d ≤ 100000000) (wd : ah - al ≤ 100000000000) (le : al + 2 * d ≤ ah) (z : Int) (h1 : al * 1048576 + d * 1048576 ≤ w + z * 1048576000000000 + 8192) (h2 : w + z * 1048576000000000 + d * 1048576 ≤ ah * 1048576 + 8192) : ephemerisref2_ContainsAngle.f al ah (w % 1048576000000000) d = some true := by
  unfold ephemerisref2_ContainsAngle.f
  rw [if_neg (by omega), if_neg (by omega), w64 (x := d * 1048576) (by omega) (by omega), w64 (x := w % 1048576000000000 - d * 1048576) (by omega) (by omega), w64 (x := al * 1048576) (by omega) (by omega), w64 (x := w % 1048576000000000 - d * 1048576 - al * 1048576) (by omega) (by omega), w64 (x := w % 1048576000000000 - d * 1048576 - al * 1048576 + 8192) (by omega) (by omega), mod_pos (by omega) (by omega), Option.bind_some, w64 (x := ah - al) (by omega) (by omega), w64 (x := 2 * d) (by omega) (by omega), w64 (x := ah - al - 2 * d) (by omega) (by omega), w64 (x := (ah - al - 2 * d) * 1048576) (by omega) (by omega), w64 (x := (ah - al - 2 * d) * 1048576 + 16384) (by omega) (by omega)]
  exact congrArg some (decide_eq_true (by omega))
end Go.Proofs.Ytcifakgcbgodiaa.SkyT
