/- MoonElongations: Elongation holds the moon's longitude less the sun's, with any parts of the remainders, and is narrow. -/
import Derived.Test.YtcifakgcbgodiaaMoonElongationsn9
import Derived.Test.YtcifakgcbgodiaaMoonElongationsn12
import Derived.Test.YtcifakgcbgodiaaMoonElongationsn28
namespace Go.Proofs.Ytcifakgcbgodiaa.Pure
open Go.RowKit Go.Proofs.YtcifakgcbgodiaaW.PrintWords Go.Proofs.YtcifakgcbgodiaaW.PrintLast Go.Proofs.YtcifakgcbgodiaaW.PrintMore Go.Proofs.Ytcifakgcbgodiaa.PAll Go.Proofs.Ytcifakgcbgodiaa.Base Go.Proofs.Ytcifakgcbgodiaa.Over Go.Proofs.Ytcifakgcbgodiaa.RefT Go.Proofs.Ytcifakgcbgodiaa.Units Go.Proofs.Ytcifakgcbgodiaa.Args Go.Proofs.Ytcifakgcbgodiaa.SumsT Go.Proofs.Ytcifakgcbgodiaa.Vals Go.Proofs.Ytcifakgcbgodiaa.SkyT Go.Proofs.Ytcifakgcbgodiaa.MoonT
set_option linter.unusedVariables false
set_option linter.unusedSimpArgs false
theorem moon_works : Ev (fun k => ephemerislaw2_moonWorks.f k) true := Ev.of ephemerislaw2_moonWorks.mono (k := 80) (by decide +kernel)
theorem MoonElongations : ephemerislaw2_MoonElongations.Pure := by
  intro t k0 k1 w1 w2 w3
  refine ev_k ?_
  unfold ephemerislaw2_MoonElongations.f
  refine ev_bind moon_works ?_
  refine Ev.congr (fun k => if_pos rfl) ?_
  by_cases h : it t = 0
  · obtain ⟨al, ah, w, v, e1, e2, e3, a0, a1, r1, r2, z, z1, z2⟩ := elong_ev h
    obtain ⟨j, hj, j0, j1⟩ := at_ok (k := k0) (n := 17) (by omega) (by omega)
    obtain ⟨i, hi, i0, i1⟩ := at_ok (k := k1) (n := 17) (by omega) (by omega)
    refine ev_bind e1 ?_
    refine Ev.congr (fun k => by rw [instErr_at, Option.bind_some, if_pos h, if_pos rfl, hj, Option.bind_some, w64 (x := j - 8) (by omega) (by omega)]) ?_
    refine ev_bind (e2 (j - 8) (by omega) (by omega)) ?_
    refine Ev.congr (fun k => by rw [hi, Option.bind_some, w64 (x := i - 8) (by omega) (by omega)]) ?_
    refine ev_bind (e3 (i - 8) (by omega) (by omega)) (ev_some 0 fun k => ?_)
    have em : ((w + 2500 * (j - 8) * 1048576) % 1048576000000000 - (v + 250 * (i - 8) * 1048576) % 1048576000000000) % 1048576000000000 = (w - v + 2500 * (j - 8) * 1048576 - 250 * (i - 8) * 1048576) % 1048576000000000 := by omega
    rw [w64 (x := (w + 2500 * (j - 8) * 1048576) % 1048576000000000 - (v + 250 * (i - 8) * 1048576) % 1048576000000000) (by omega) (by omega), mod_pos (by omega) (by omega), Option.bind_some, em, contAngle_at (ah := ah) (d := 0) (w := w - v + 2500 * (j - 8) * 1048576 - 250 * (i - 8) * 1048576) a0 a1 (by omega) (by omega) (by omega) (by omega) z (by omega) (by omega), Option.bind_some, if_pos rfl, w64 (x := ah - al) (by omega) (by omega)]
    exact congrArg some (decide_eq_true (by omega))
  · refine ev_bind (elong_bad h) (ev_some 0 fun k => ?_)
    rw [instErr_at, Option.bind_some, if_neg h, none_at]
    rfl
end Go.Proofs.Ytcifakgcbgodiaa.Pure
