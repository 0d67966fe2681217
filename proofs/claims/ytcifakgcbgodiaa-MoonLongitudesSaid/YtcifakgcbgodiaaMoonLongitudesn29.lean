/- MoonLongitudes: Longitude and Latitude of the moon hold those of the document, with any part of the remainder, and are narrow. -/
import Derived.Test.YtcifakgcbgodiaaMoonLongitudesn9
import Derived.Test.YtcifakgcbgodiaaMoonLongitudesn11
import Derived.Test.YtcifakgcbgodiaaMoonLongitudesn12
import Derived.Test.YtcifakgcbgodiaaMoonLongitudesn28
namespace Go.Proofs.Ytcifakgcbgodiaa.Pure
open Go.RowKit Go.Proofs.YtcifakgcbgodiaaW.PrintWords Go.Proofs.YtcifakgcbgodiaaW.PrintLast Go.Proofs.YtcifakgcbgodiaaW.PrintMore Go.Proofs.Ytcifakgcbgodiaa.PAll Go.Proofs.Ytcifakgcbgodiaa.Base Go.Proofs.Ytcifakgcbgodiaa.Over Go.Proofs.Ytcifakgcbgodiaa.Units Go.Proofs.Ytcifakgcbgodiaa.Args Go.Proofs.Ytcifakgcbgodiaa.SumsT Go.Proofs.Ytcifakgcbgodiaa.Vals Go.Proofs.Ytcifakgcbgodiaa.SkyT Go.Proofs.Ytcifakgcbgodiaa.MoonT
set_option linter.unusedVariables false
set_option linter.unusedSimpArgs false
theorem moon_works : Ev (fun k => ephemerislaw2_moonWorks.f k) true := Ev.of ephemerislaw2_moonWorks.mono (k := 80) (by decide +kernel)
theorem MoonLongitudes : ephemerislaw2_MoonLongitudes.Pure := by
  intro t k0 w1 w2
  refine ev_k ?_
  unfold ephemerislaw2_MoonLongitudes.f
  refine ev_bind moon_works ?_
  refine Ev.congr (fun k => if_pos rfl) ?_
  by_cases h : it t = 0
  · obtain ⟨al, ah, w, e1, e2, a0, a1, r1, r2, z, z1, z2⟩ := moonLon_ev h
    obtain ⟨vl, vh, n, f1, f2, s1, s2, s3, s4, s5, s6, s7, s8⟩ := moonLat_ev h
    obtain ⟨j, hj, j0, j1⟩ := at_ok (k := k0) (n := 17) (by omega) (by omega)
    refine ev_bind e1 (ev_bind f1 ?_)
    refine Ev.congr (fun k => by rw [instErr_at, Option.bind_some, if_pos h, hj, Option.bind_some, if_pos rfl, if_pos rfl, w64 (x := j - 8) (by omega) (by omega)]) ?_
    refine ev_bind (e2 (j - 8) (by omega) (by omega)) ?_
    refine Ev.congr (fun k => by rw [contAngle_at (ah := ah) (d := 0) (w := w + 2500 * (j - 8) * 1048576) a0 a1 (by omega) (by omega) (by omega) (by omega) z (by omega) (by omega), Option.bind_some, if_pos rfl]) ?_
    refine ev_bind (f2 (j - 8) (by omega) (by omega)) (ev_some 0 fun k => ?_)
    unfold ephemerisref2_Contains.f
    rw [w64 (x := vl * 1048576) (by omega) (by omega), w64 (x := 0 * 1048576) (by omega) (by omega), w64 (x := n + 2500 * (j - 8) * 1048576 - 0 * 1048576) (by omega) (by omega), w64 (x := n + 2500 * (j - 8) * 1048576 - 0 * 1048576 + 8192) (by omega) (by omega), if_pos (by omega), w64 (x := n + 2500 * (j - 8) * 1048576 + 0 * 1048576) (by omega) (by omega), w64 (x := vh * 1048576) (by omega) (by omega), w64 (x := vh * 1048576 + 8192) (by omega) (by omega), decide_eq_true (by omega), Option.bind_some, if_pos rfl, w64 (x := ah - al) (by omega) (by omega), if_pos (by omega), w64 (x := vh - vl) (by omega) (by omega)]
    exact congrArg some (decide_eq_true (by omega))
  · refine ev_bind (moonLon_bad h) (ev_bind (moonLat_bad h) (ev_some 0 fun k => ?_))
    rw [instErr_at, Option.bind_some, if_neg h, none_at, Option.bind_some, if_pos rfl]
    rfl
end Go.Proofs.Ytcifakgcbgodiaa.Pure
