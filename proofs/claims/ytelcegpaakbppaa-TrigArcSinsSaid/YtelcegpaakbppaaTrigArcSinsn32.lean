/- TrigArcSins: ArcSin of the program holds the angles of the bounds, by the reference's InArcSin. -/
import Derived.Test.YtelcegpaakbppaaTrigArcSinsn14
import Derived.Test.YtelcegpaakbppaaTrigArcSinsn31
namespace Go.Proofs.Ytelcegpaakbppaa.Pure
open Go.RowKit Go.Proofs.YtelcegpaakbppaaW.PrintWords Go.Proofs.YtelcegpaakbppaaW.PrintLast Go.Proofs.YtelcegpaakbppaaW.PrintMore Go.Proofs.Ytelcegpaakbppaa.Opn Go.Proofs.Ytelcegpaakbppaa.PAll Go.Proofs.Ytelcegpaakbppaa.Base Go.Proofs.Ytelcegpaakbppaa.Over Go.Proofs.Ytelcegpaakbppaa.Units Go.Proofs.Ytelcegpaakbppaa.ArcSinT
set_option linter.unusedVariables false
set_option linter.unusedSimpArgs false
theorem arcs_works : Ev (fun k => ephemerislaw2_trigWorks.f k) true := Ev.of ephemerislaw2_trigWorks.mono (k := 120) (by decide +kernel)
theorem none_at (e : Int) : ephemerislaw2_none.f 0 0 e e = some true := by unfold ephemerislaw2_none.f; simp
theorem TrigArcSins : PureX := by
  intro s0 w0
  rcases s0 with ⟨lo, hi⟩
  refine ev_k ?_
  unfold ephemerislaw2_TrigArcSins.f
  refine ev_bind arcs_works ?_
  refine Ev.congr (fun k => if_pos rfl) ?_
  show Ev (fun k => (trig_ArcSin.f k lo hi).bind _) true
  have t := spanErr_ev lo hi
  by_cases h : sp lo hi = 0
  · rw [h] at t
    obtain ⟨_, h1, _⟩ := sp_zero h
    obtain ⟨A, B, e, H⟩ := arcsin_ev h
    obtain ⟨c1, c2⟩ := cp_bound lo
    obtain ⟨d1, d2⟩ := cp_bound hi
    have cm := cp_mono h1
    obtain ⟨z, f1, e1⟩ := arcs_hold H c1 c2 (Int.le_refl _) cm
    obtain ⟨z', f2, e2⟩ := arcs_hold H d1 d2 cm (Int.le_refl _)
    have b1 := H.a0
    have b2 := H.b0
    have b3 := H.le
    refine ev_bind e (ev_bind t ?_)
    refine Ev.congr (fun k => by rw [if_pos rfl, if_pos rfl]) ?_
    show Ev (fun k => (ephemerisref2_FromUnit.f (cp lo)).bind fun t573 => ((ephemerisref2_InArcSin.f k A B t573).bind fun t574 => (if t574 = true then ((ephemerisref2_FromUnit.f (cp hi)).bind fun t575 => ((ephemerisref2_InArcSin.f k A B t575).bind fun t576 => (if t576 = true then (if cp lo = cp hi then (some (decide ((wrap64 (B - A)) ≤ 5))) else (some true)) else (some false)))) else (some false)))) true
    refine Ev.congr (fun k => by rw [f1, Option.bind_some, f2]) ?_
    refine ev_bind e1 ?_
    refine Ev.congr (fun k => by rw [if_pos rfl, Option.bind_some]) ?_
    refine ev_bind e2 (ev_some 0 fun k => ?_)
    rw [if_pos rfl]
    by_cases c : cp lo = cp hi
    · rw [if_pos c, w64 (x := B - A) (by omega) (by omega)]
      exact congrArg some (decide_eq_true (H.wide c))
    · rw [if_neg c]
  · refine ev_bind (arcsin_bad h) (ev_bind t (ev_some 0 fun k => ?_))
    rw [if_neg h, none_at]
    rfl
end Go.Proofs.Ytelcegpaakbppaa.Pure
