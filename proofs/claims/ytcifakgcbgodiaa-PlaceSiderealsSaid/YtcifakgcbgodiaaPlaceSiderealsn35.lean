/- A place: its check, the sidereal angle, the hour angle and the height of a body. -/
import Derived.Test.YtcifakgcbgodiaaPlaceSiderealsn2
import Derived.Test.YtcifakgcbgodiaaPlaceSiderealsn8
import Derived.Test.YtcifakgcbgodiaaPlaceSiderealsn9
import Derived.Test.YtcifakgcbgodiaaPlaceSiderealsn10
import Derived.Test.YtcifakgcbgodiaaPlaceSiderealsn17
import Derived.Test.YtcifakgcbgodiaaPlaceSiderealsn12
import Derived.Test.YtcifakgcbgodiaaPlaceSiderealsn33
import Derived.Test.YtcifakgcbgodiaaPlaceSiderealsn34
import Derived.Test.YtcifakgcbgodiaaPlaceSiderealsn13
namespace Go.Proofs.Ytcifakgcbgodiaa.PlaceT
open Go Go.RowKit Go.Proofs.YtcifakgcbgodiaaW.PrintWords Go.Proofs.YtcifakgcbgodiaaW.PrintLast Go.Proofs.YtcifakgcbgodiaaW.PrintMore Go.Proofs.Ytcifakgcbgodiaa.Opn Go.Proofs.Ytcifakgcbgodiaa.PAll Go.Proofs.Ytcifakgcbgodiaa.Base Go.Proofs.Ytcifakgcbgodiaa.Turn Go.Proofs.Ytcifakgcbgodiaa.Over Go.Proofs.Ytcifakgcbgodiaa.Args Go.Proofs.Ytcifakgcbgodiaa.SumsT Go.Proofs.Ytcifakgcbgodiaa.Vals Go.Proofs.Ytcifakgcbgodiaa.SkyT Go.Proofs.Ytcifakgcbgodiaa.MulT Go.Proofs.Ytcifakgcbgodiaa.OctT Go.Proofs.Ytcifakgcbgodiaa.SinT Go.Proofs.Ytcifakgcbgodiaa.Circ Go.Proofs.Ytcifakgcbgodiaa.RefT
set_option linter.unusedVariables false
set_option linter.unusedSimpArgs false
/-- the words of the executor's trees -/
theorem ob_ev {α β : Type} {g : Nat → Option α} {f : Nat → α → Option β} {a : α} {r : β} (h : Ev g a) (k : Ev (fun n => f n a) r) : Ev (fun n => Sx.ob (g n) (f n)) r := by
  refine Ev.congr (fun n => Sx.ob_eq _ _) ?_
  exact ev_bind h k
theorem iw (x : Int) : IntKind.i64.wrap x = wrap64 x := i64_w x
def pe (lon lat : Int) : Int := if lon < -500000000 ∨ lon > 500000000 ∨ lat < -220000000 ∨ lat > 220000000 then 3 else 0
theorem pe_zero {lon lat : Int} (h : pe lon lat = 0) : -500000000 ≤ lon ∧ lon ≤ 500000000 ∧ -220000000 ≤ lat ∧ lat ≤ 220000000 := by
  unfold pe at h
  split at h
  · cases h
  · omega
theorem check_at (lon lat : Int) : place_Check.f lon lat = some (pe lon lat) := by
  unfold place_Check.f pe
  by_cases c1 : lon < -500000000
  · simp [c1]
  by_cases c2 : lon > 500000000
  · simp [c1, c2]
  by_cases c3 : lat < -220000000
  · simp [c1, c2, c3]
  by_cases c4 : lat > 220000000
  · simp [c1, c2, c3, c4]
  · simp [c1, c2, c3, c4]
theorem placeErr_at (lon lat : Int) : ephemerisref2_PlaceErr.f lon lat = some (pe lon lat) := by
  have h : ephemerisref2_PlaceErr.f lon lat = place_Check.f lon lat := rfl
  rw [h, check_at]
/-- the sidereal angle's degree -/
def sid (lon t : Int) : Int := (275313108 + arg 1002737909350806 t / 1000000 + lon) % 1000000000
theorem sid_bound (lon t : Int) : 0 ≤ sid lon t ∧ sid lon t < 1000000000 := by unfold sid; omega
theorem sum_nil (t : Int) : Ev (fun k => series_sum.f k 275313108 1002737909350806 ([] : List (S80)) 0 t) (275313108, 275313108) :=
  ev_some 1 fun k => by
    unfold series_sum.f
    rw [series_sum.l0, if_neg (by simp), w64 (by omega) (by omega), w64 (by omega) (by omega)]
    rfl
theorem st2_nil (t : Int) : st2 275313108 1002737909350806 ([] : List (S80)) 0 t = it t := by
  unfold st2
  rw [if_pos (by decide)]
theorem sangle_ev {t : Int} (h : it t = 0) : Ev (fun k => series_Angle.f k 275313108 1002737909350806 ([] : List (S80)) 0 t) ((275313108 + arg 1002737909350806 t / 1000000) % 1000000000, (275313108 + arg 1002737909350806 t / 1000000) % 1000000000 + 1, 0) := by
  obtain ⟨i1, i2⟩ := it_zero h
  have e3 := turned_ev (r := 1002737909350806) (t := t) (by omega) (by omega) i1 i2
  obtain ⟨g0, g1⟩ := arg_bound 1002737909350806 t
  have e2 := st2_nil t
  generalize arg 1002737909350806 t = A at *
  unfold series_Angle.f
  refine ev_bind (check2_ev _ _ _ _ _) ?_
  simp only [e2, if_pos h]
  refine ev_bind (sum_nil t) (ev_bind e3 (ev_some 0 fun k => ?_))
  rw [Int.tdiv_eq_ediv_of_nonneg g0, w64 (x := A / 1000000) (by omega) (by omega), w64 (x := 275313108 + A / 1000000) (by omega) (by omega), w64 (x := 275313108 + A / 1000000 + 1) (by omega) (by omega), sreduced_at (by omega) (by omega) (by omega) (by omega), Option.bind_some]
  congr 3
  omega
theorem sidereal_bad {lon lat t : Int} (h : pe lon lat = 0 → it t ≠ 0) : Ev (fun k => place_Sidereal.f k lon lat t) (0, 0, if pe lon lat = 0 then it t else pe lon lat) := by
  unfold place_Sidereal.f
  refine Ev.congr (fun k => by rw [check_at, Option.bind_some]) ?_
  by_cases c : pe lon lat = 0
  · simp only [if_pos c]
    have b := angle_bad (m := 275313108) (b := 1002737909350806) (l := ([] : List (S80))) (d := 0) (t := t) (by rw [st2_nil]; exact h c)
    rw [st2_nil] at b
    refine ev_bind b ?_
    simp only [if_neg (h c)]
    exact ev_some 0 fun k => rfl
  · simp only [if_neg c]
    exact ev_some 0 fun k => rfl
theorem sidereal_ev {lon lat t : Int} (h : pe lon lat = 0) (ht : it t = 0) : Ev (fun k => place_Sidereal.f k lon lat t) (sid lon t, sid lon t + 1, 0) := by
  obtain ⟨p1, p2, p3, p4⟩ := pe_zero h
  obtain ⟨g0, g1⟩ := arg_bound 1002737909350806 t
  unfold place_Sidereal.f
  refine Ev.congr (fun k => by rw [check_at, Option.bind_some, if_pos h]) ?_
  refine ev_bind (sangle_ev ht) ?_
  simp only [if_true]
  unfold sid
  generalize arg 1002737909350806 t = A at *
  refine ev_some 0 fun k => ?_
  rw [w64 (x := (275313108 + A / 1000000) % 1000000000 + lon) (by omega) (by omega), w64 (x := (275313108 + A / 1000000) % 1000000000 + 1 + lon) (by omega) (by omega), sreduced_at (by omega) (by omega) (by omega) (by omega), Option.bind_some]
  congr 2
  · omega
  · congr 1; omega
/-- the reference's -/
def rsid (lon t : Int) : Int := (arg 1002737909350806 t + (275313108 + lon) * 1000000) % 1000000000000000
theorem rsidereal_ev {lon lat t : Int} (h : pe lon lat = 0) (ht : it t = 0) : Ev (fun k => ephemerisref2_Sidereal.f k lon lat t) (rsid lon t) := by
  obtain ⟨p1, p2, p3, p4⟩ := pe_zero h
  obtain ⟨i1, i2⟩ := it_zero ht
  have e4 := arg_ev (r := 1002737909350806) (t := t) (by omega) (by omega) i1 i2
  obtain ⟨g0, g1⟩ := arg_bound 1002737909350806 t
  unfold ephemerisref2_Sidereal.f rsid
  refine ob_ev e4 ?_
  generalize arg 1002737909350806 t = A at *
  refine ev_some 0 fun k => ?_
  rw [iw, iw, iw, w64 (x := 275313108 + lon) (by omega) (by omega), w64 (x := (275313108 + lon) * 1000000) (by omega) (by omega), w64 (x := A + (275313108 + lon) * 1000000) (by omega) (by omega), mod_pos (by omega) (by omega)]
  rfl
theorem rsid_div (lon t : Int) : rsid lon t / 1000000 = sid lon t := by unfold rsid sid; omega
theorem rsid_bound (lon t : Int) : 0 ≤ rsid lon t ∧ rsid lon t < 1000000000000000 := by unfold rsid; omega
/-- why there is no height -/
def he (lon lat r0 r1 d0 d1 t : Int) : Int :=
  if pe lon lat ≠ 0 then pe lon lat else if it t ≠ 0 then it t else if sp r0 r1 ≠ 0 then sp r0 r1 else if sp d0 d1 ≠ 0 then sp d0 d1 else
    if d0 < -250000000 ∨ d1 > 250000000 ∨ r0 < -1000000000 ∨ r1 > 3000000000 then 3 else 0
end Go.Proofs.Ytcifakgcbgodiaa.PlaceT
