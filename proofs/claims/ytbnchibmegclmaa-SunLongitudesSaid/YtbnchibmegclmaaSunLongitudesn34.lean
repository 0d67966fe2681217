/- SunLongitudes: Longitude of the sun holds that of the document, with any part of the remainder, and is narrow. -/
import Derived.Test.YtbnchibmegclmaaSunLongitudesn16
import Derived.Test.YtbnchibmegclmaaSunLongitudesn18
import Derived.Test.YtbnchibmegclmaaSunLongitudesn33
namespace Go.Proofs.Ytbnchibmegclmaa.Pure
open Go.RowKit Go.Proofs.YtbnchibmegclmaaW.PrintWords Go.Proofs.YtbnchibmegclmaaW.PrintLast Go.Proofs.YtbnchibmegclmaaW.PrintMore Go.Proofs.Ytbnchibmegclmaa.PAll Go.Proofs.Ytbnchibmegclmaa.Base Go.Proofs.Ytbnchibmegclmaa.Over Go.Proofs.Ytbnchibmegclmaa.Units Go.Proofs.Ytbnchibmegclmaa.Args Go.Proofs.Ytbnchibmegclmaa.SumsT Go.Proofs.Ytbnchibmegclmaa.Vals Go.Proofs.Ytbnchibmegclmaa.SkyT
set_option linter.unusedVariables false
set_option linter.unusedSimpArgs false
theorem sun_works : Ev (fun k => ephemerislaw2_sunWorks.f k) true := Ev.of ephemerislaw2_sunWorks.mono (k := 100) (by decide +kernel)
theorem SunLongitudes : ephemerislaw2_SunLongitudes.Pure := by
  intro t k0 w1 w2
  refine ev_k ?_
  unfold ephemerislaw2_SunLongitudes.f
  refine ev_bind sun_works ?_
  refine Ev.congr (fun k => if_pos rfl) ?_
  by_cases h : it t = 0
  · obtain ⟨al, ah, w, e1, e2, a0, a1, r1, r2, z, z1, z2⟩ := sunLon_ev h
    obtain ⟨j, hj, j0, j1⟩ := at_ok (k := k0) (n := 17) (by omega) (by omega)
    refine ev_bind e1 ?_
    refine Ev.congr (fun k => by rw [instErr_at, Option.bind_some, if_pos h, if_pos rfl, hj, Option.bind_some, w64 (x := j - 8) (by omega) (by omega)]) ?_
    refine ev_bind (e2 (j - 8) (by omega) (by omega)) (ev_some 0 fun k => ?_)
    rw [contAngle_at (ah := ah) (d := 0) (w := w + 250 * (j - 8) * 1048576) a0 a1 (by omega) (by omega) (by omega) (by omega) z (by omega) (by omega), Option.bind_some, if_pos rfl, w64 (x := ah - al) (by omega) (by omega)]
    exact congrArg some (decide_eq_true (by omega))
  · refine ev_bind (sunLon_bad h) (ev_some 0 fun k => ?_)
    rw [instErr_at, Option.bind_some, if_neg h, none_at, Option.bind_some]
end Go.Proofs.Ytbnchibmegclmaa.Pure
