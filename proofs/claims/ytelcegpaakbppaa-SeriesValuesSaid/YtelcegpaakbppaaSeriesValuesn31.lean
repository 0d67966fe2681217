/- SeriesValues: Value of the program holds the reference's sum with all remainders, and is as narrow as Bound tells. -/
import Derived.Test.YtelcegpaakbppaaSeriesValuesn16
import Derived.Test.YtelcegpaakbppaaSeriesValuesn30
namespace Go.Proofs.Ytelcegpaakbppaa.Pure
open Go.RowKit Go.Proofs.YtelcegpaakbppaaW.PrintWords Go.Proofs.YtelcegpaakbppaaW.PrintLast Go.Proofs.YtelcegpaakbppaaW.PrintMore Go.Proofs.Ytelcegpaakbppaa.Opn Go.Proofs.Ytelcegpaakbppaa.PAll Go.Proofs.Ytelcegpaakbppaa.Base Go.Proofs.Ytelcegpaakbppaa.Over Go.Proofs.Ytelcegpaakbppaa.Units Go.Proofs.Ytelcegpaakbppaa.Args Go.Proofs.Ytelcegpaakbppaa.SumsT Go.Proofs.Ytelcegpaakbppaa.Vals
set_option linter.unusedVariables false
set_option linter.unusedSimpArgs false
theorem series_works : Ev (fun k => ephemerislaw2_seriesWorks.f k) true := Ev.of ephemerislaw2_seriesWorks.mono (k := 60) (by decide +kernel)
theorem sumErr2_ev (m b : Int) (l : List S53) (d t : Int) : Ev (fun k => ephemerislaw2_sumErr.f k m b l d t) (st2 m b l d t) := by
  unfold ephemerislaw2_sumErr.f st2
  refine ev_bind (sumErr_ev m b l d) ?_
  by_cases c : se m b l d = 0
  · simp only [if_pos c]
    exact ev_some 0 fun k => by rw [instErr_at, Option.bind_some]
  · simp only [if_neg c]
    exact ev_some 0 fun k => rfl
theorem none_at (e : Int) : ephemerislaw2_none.f 0 0 e e = some true := by unfold ephemerislaw2_none.f; simp
theorem SeriesValues : PureX := by
  intro s t w1 w2
  rcases s with ⟨m, b, l, d⟩
  refine ev_k ?_
  unfold ephemerislaw2_SeriesValues.f
  refine ev_bind series_works ?_
  refine Ev.congr (fun k => if_pos rfl) ?_
  show Ev (fun k => (series_Value.f k m b l d t).bind _) true
  by_cases h : st2 m b l d t = 0
  · obtain ⟨vl, vh, n, e1, e2, r1, r2, r3, r4, r5, r6, r7, r8⟩ := value_ev h
    have e3 := sumErr2_ev m b l d t
    rw [h] at e3
    obtain ⟨h1, h2⟩ := st2_zero h
    have hd : 0 ≤ d ∧ d ≤ 100000000 := by
      obtain ⟨_, z, _⟩ := se_zero h1
      unfold hb at z
      omega
    obtain ⟨q1, q2⟩ := qs_bound (se_zero h1).2.2
    refine ev_bind e1 (ev_bind e3 ?_)
    refine Ev.congr (fun k => if_pos rfl) ?_
    refine ev_bind (bound_at h1) ?_
    refine Ev.congr (fun k => if_pos rfl) ?_
    refine ev_bind e2 (ev_some 0 fun k => ?_)
    unfold ephemerisref2_Contains.f
    rw [w64 (x := vl * 1048576) (by omega) (by omega), w64 (x := d * 1048576) (by omega) (by omega), w64 (x := n - d * 1048576) (by omega) (by omega), w64 (x := n - d * 1048576 + 8192) (by omega) (by omega), if_pos (by omega), w64 (x := n + d * 1048576) (by omega) (by omega), w64 (x := vh * 1048576) (by omega) (by omega), w64 (x := vh * 1048576 + 8192) (by omega) (by omega), decide_eq_true (by omega), Option.bind_some, if_pos rfl, w64 (x := vh - vl) (by omega) (by omega)]
    exact congrArg some (decide_eq_true r3)
  · refine ev_bind (value_bad h) (ev_bind (sumErr2_ev m b l d t) ?_)
    refine ev_some 0 fun k => ?_
    rw [if_neg h, none_at]
    rfl
end Go.Proofs.Ytelcegpaakbppaa.Pure
