/- PlaceSidereals: Check and Sidereal are those of the document. -/
import Derived.Test.YtcifakgcbgodiaaPlaceSiderealsn17
import Derived.Test.YtcifakgcbgodiaaPlaceSiderealsn18
import Derived.Test.YtcifakgcbgodiaaPlaceSiderealsn20
import Derived.Test.YtcifakgcbgodiaaPlaceSiderealsn35
namespace Go.Proofs.Ytcifakgcbgodiaa.Pure
open Go Go.RowKit Go.Proofs.YtcifakgcbgodiaaW.PrintWords Go.Proofs.YtcifakgcbgodiaaW.PrintLast Go.Proofs.YtcifakgcbgodiaaW.PrintMore Go.Proofs.Ytcifakgcbgodiaa.Opn Go.Proofs.Ytcifakgcbgodiaa.PAll Go.Proofs.Ytcifakgcbgodiaa.Base Go.Proofs.Ytcifakgcbgodiaa.Over Go.Proofs.Ytcifakgcbgodiaa.Args Go.Proofs.Ytcifakgcbgodiaa.SumsT Go.Proofs.Ytcifakgcbgodiaa.Vals Go.Proofs.Ytcifakgcbgodiaa.SkyT Go.Proofs.Ytcifakgcbgodiaa.PlaceT
set_option linter.unusedVariables false
set_option linter.unusedSimpArgs false
theorem place_works : Ev (fun k => ephemerislaw2_placeWorks.f k) true := Ev.of ephemerislaw2_placeWorks.mono (k := 100) (by decide +kernel)
theorem PlaceSidereals : PureX := by
  intro s t hs ht
  refine ev_k (g := fun k => ephemerislaw2_PlaceSidereals.f k s.f0 s.f1 t) ?_
  unfold ephemerislaw2_PlaceSidereals.f
  refine ev_bind place_works ?_
  refine Ev.congr (fun k => if_pos rfl) ?_
  by_cases c : pe s.f0 s.f1 = 0 ∧ it t = 0
  · obtain ⟨c1, c2⟩ := c
    refine ev_bind (sidereal_ev c1 c2) ?_
    refine Ev.congr (fun k => by rw [placeErr_at, Option.bind_some, check_at, Option.bind_some, if_pos rfl, if_pos c1, instErr_at, Option.bind_some]) ?_
    have r := rsidereal_ev c1 c2
    have q := rsid_div s.f0 t
    obtain ⟨b1, b2⟩ := rsid_bound s.f0 t
    obtain ⟨s1, s2⟩ := sid_bound s.f0 t
    generalize rsid s.f0 t = R at *
    generalize sid s.f0 t = A at *
    refine ev_step 1 (fun k => by rw [ephemerislaw2_PlaceSidereals.j0, if_pos c2]) ?_
    refine ev_bind r (ev_some 0 fun k => ?_)
    dsimp only
    have e : A * 1048576 + R % 1000000 * 1048576 / 1000000 = (A * 1048576 + R % 1000000 * 1048576 / 1000000) % 1048576000000000 := by omega
    rw [if_pos rfl, Int.tdiv_eq_ediv_of_nonneg b1, Int.tmod_eq_emod_of_nonneg b1, q, w64 (x := A) (by omega) (by omega), w64 (x := A * 1048576) (by omega) (by omega), w64 (x := R % 1000000 * 1048576) (by omega) (by omega), Int.tdiv_eq_ediv_of_nonneg (by omega), w64 (x := R % 1000000 * 1048576 / 1000000) (by omega) (by omega), w64 (x := A * 1048576 + R % 1000000 * 1048576 / 1000000) (by omega) (by omega), e, contAngle_at s1 s2 (by omega) (by omega) (by omega) (by omega) 0 (by omega) (by omega), Option.bind_some, if_pos rfl, w64 (x := A + 1 - A) (by omega) (by omega)]
    exact congrArg some (decide_eq_true (by omega))
  · have b := sidereal_bad (lon := s.f0) (lat := s.f1) (t := t) (fun c1 c2 => c ⟨c1, c2⟩)
    refine ev_bind b ?_
    refine Ev.congr (fun k => by rw [placeErr_at, Option.bind_some, check_at, Option.bind_some, if_pos rfl]) ?_
    by_cases c1 : pe s.f0 s.f1 = 0
    · have c2 : it t ≠ 0 := fun c2 => c ⟨c1, c2⟩
      simp only [if_pos c1]
      refine Ev.congr (fun k => by rw [instErr_at, Option.bind_some]) ?_
      exact ev_some 1 fun k => by rw [ephemerislaw2_PlaceSidereals.j0, if_neg c2, none_at, Option.bind_some]
    · simp only [if_neg c1]
      exact ev_some 1 fun k => by rw [ephemerislaw2_PlaceSidereals.j0, if_neg c1, none_at, Option.bind_some]
end Go.Proofs.Ytcifakgcbgodiaa.Pure
