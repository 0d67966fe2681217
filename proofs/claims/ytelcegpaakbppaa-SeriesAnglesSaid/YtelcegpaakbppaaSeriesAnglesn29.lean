/- SeriesAngles: Angle of the program holds the reference's whole sum with all remainders, and is as narrow as Bound tells. -/
import Derived.Test.YtelcegpaakbppaaSeriesAnglesn14
import Derived.Test.YtelcegpaakbppaaSeriesAnglesn28
namespace Go.Proofs.Ytelcegpaakbppaa.Pure
open Go.RowKit Go.Proofs.YtelcegpaakbppaaW.PrintWords Go.Proofs.YtelcegpaakbppaaW.PrintLast Go.Proofs.YtelcegpaakbppaaW.PrintMore Go.Proofs.Ytelcegpaakbppaa.Opn Go.Proofs.Ytelcegpaakbppaa.PAll Go.Proofs.Ytelcegpaakbppaa.Base Go.Proofs.Ytelcegpaakbppaa.Over Go.Proofs.Ytelcegpaakbppaa.Units Go.Proofs.Ytelcegpaakbppaa.RefT Go.Proofs.Ytelcegpaakbppaa.Args Go.Proofs.Ytelcegpaakbppaa.SumsT Go.Proofs.Ytelcegpaakbppaa.Vals
set_option linter.unusedVariables false
set_option linter.unusedSimpArgs false
theorem series_works : Ev (fun k => ephemerislaw2_seriesWorks.f k) true := Ev.of ephemerislaw2_seriesWorks.mono (k := 60) (by decide +kernel)
theorem sumErr2_ev (m b : Int) (l : List S53) (d t : Int) : Ev (fun k => ephemerislaw2_sumErr.f k m b l d t) (st2 m b l d t) := by
  unfold ephemerislaw2_sumErr.f st2
  refine ev_bind (sumErr_ev m b l d) ?_
  by_cases c : se m b l d = 0
  · simp only [if_pos c]
    exact ev_some 0 fun k => by rw [instErr_at, Option.bind_some]
  · simp only [if_neg c]
    exact ev_some 0 fun k => rfl
theorem none_at (e : Int) : ephemerislaw2_none.f 0 0 e e = some true := by unfold ephemerislaw2_none.f; simp
theorem contAngle_at {al ah d w : Int} (a0 : 0 ≤ al) (a1 : al < 1000000000) (d0 : 0 ≤ d) (d1 : d ≤ 100000000) (wd : ah - al ≤ 100000000000) (le : al + 2 * d ≤ ah) (z : Int) (h1 : al * 1048576 + d * 1048576 ≤ w + z * 1048576000000000 + 8192) (h2 : w + z * 1048576000000000 + d * 1048576 ≤ ah * 1048576 + 8192) : ephemerisref2_ContainsAngle.f al ah (w % 1048576000000000) d = some true := by
  unfold ephemerisref2_ContainsAngle.f
  rw [if_neg (by omega), if_neg (by omega), w64 (x := d * 1048576) (by omega) (by omega), w64 (x := w % 1048576000000000 - d * 1048576) (by omega) (by omega), w64 (x := al * 1048576) (by omega) (by omega), w64 (x := w % 1048576000000000 - d * 1048576 - al * 1048576) (by omega) (by omega), w64 (x := w % 1048576000000000 - d * 1048576 - al * 1048576 + 8192) (by omega) (by omega), mod_pos (by omega) (by omega), Option.bind_some, w64 (x := ah - al) (by omega) (by omega), w64 (x := 2 * d) (by omega) (by omega), w64 (x := ah - al - 2 * d) (by omega) (by omega), w64 (x := (ah - al - 2 * d) * 1048576) (by omega) (by omega), w64 (x := (ah - al - 2 * d) * 1048576 + 16384) (by omega) (by omega)]
  exact congrArg some (decide_eq_true (by omega))
theorem SeriesAngles : PureX := by
  intro s t w1 w2
  rcases s with ⟨m, b, l, d⟩
  refine ev_k ?_
  unfold ephemerislaw2_SeriesAngles.f
  refine ev_bind series_works ?_
  refine Ev.congr (fun k => if_pos rfl) ?_
  show Ev (fun k => (series_Angle.f k m b l d t).bind _) true
  by_cases h : st2 m b l d t = 0
  · obtain ⟨al, ah, w, e1, e2, a0, a1, r1, r2, z, z1, z2⟩ := angle_ev h
    have e3 := sumErr2_ev m b l d t
    rw [h] at e3
    obtain ⟨h1, h2⟩ := st2_zero h
    have hd : 0 ≤ d ∧ d ≤ 100000000 := by
      obtain ⟨_, z, _⟩ := se_zero h1
      unfold hb at z
      omega
    obtain ⟨q0, _⟩ := se_zero h1
    obtain ⟨q1, q2⟩ := qs_bound (se_zero h1).2.2
    refine ev_bind e1 (ev_bind e3 ?_)
    refine Ev.congr (fun k => if_pos rfl) ?_
    refine ev_bind (bound_at h1) ?_
    refine Ev.congr (fun k => if_pos rfl) ?_
    refine ev_bind e2 (ev_some 0 fun k => ?_)
    rw [contAngle_at a0 a1 hd.1 hd.2 (by omega) r2 z (by omega) (by omega), Option.bind_some, if_pos rfl, w64 (x := ah - al) (by omega) (by omega), w64 (x := 2 * d + qs l + 1) (by omega) (by omega)]
    exact congrArg some (decide_eq_true r1)
  · refine ev_bind (angle_bad h) (ev_bind (sumErr2_ev m b l d t) ?_)
    refine ev_some 0 fun k => ?_
    rw [if_neg h, none_at]
    rfl
end Go.Proofs.Ytelcegpaakbppaa.Pure
