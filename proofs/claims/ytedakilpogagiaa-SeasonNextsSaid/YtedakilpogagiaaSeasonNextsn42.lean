/- What the laws of the seasons need: ahead, and the errors of Next and Find. -/
import Derived.Test.YtedakilpogagiaaSeasonNextsn41
namespace Go.Proofs.Ytedakilpogagiaa.SeasT
open Go Go.RowKit YtedakilpogagiaaW.PrintWords YtedakilpogagiaaW.PrintLast YtedakilpogagiaaW.PrintMore Opn PAll Base SinT Over RefT Units SumsT Vals SkyT SlpT PhaseT SunT
set_option linter.unusedVariables false
set_option linter.unusedSimpArgs false
theorem season_works : Ev (fun k => ephemerislaw2_seasonWorks.f k) true := Ev.of ephemerislaw2_seasonWorks.mono (k := 100) (by decide +kernel)
theorem ahead_g {w g v : Int} (w0 : 0 ≤ w) (w1 : w < 1048576000000000) (g0 : 0 ≤ g) (g1 : g < 1000000000) (v0 : -524288000000000 ≤ v) (v1 : v < 524288000000000) (m : Int) (e : w - g * 1048576 = v + m * 1048576000000000) : ephemerislaw2_ahead.f w (wrap64 (g * 1048576)) = some v := by
 unfold ephemerislaw2_ahead.f
 rw [w64 (x := g * 1048576) (by omega) (by omega), w64 (x := w - g * 1048576) (by omega) (by omega), w64 (x := w - g * 1048576 + 524288000000000) (by omega) (by omega), mod_pos (by omega) (by omega), Option.bind_some, w64 (by omega) (by omega)]
 congr 1
 omega
theorem ahead_s {z lon x dx g n : Int} (hx : -100000000 * 1048576 ≤ Y z lon x dx ∧ Y z lon x dx ≤ 100000000 * 1048576) (g0 : 0 ≤ g) (g1 : g < 1000000000) (hg : lon % 1000000000 = g) (n1 : -8 ≤ n) (n2 : n ≤ 8) : ephemerislaw2_ahead.f ((Ws x dx + 250 * n * 1048576) % 1048576000000000) (wrap64 (g * 1048576)) = some (Y z lon x dx + 250 * n * 1048576) := by
 have hy : Y z lon x dx = Ws x dx + z * 1048576000000000 - lon * 1048576 := rfl
 generalize Y z lon x dx = y at *
 generalize Ws x dx = W at *
 exact ahead_g (by omega) (by omega) g0 g1 (by omega) (by omega) (-z + lon / 1000000000 - (W + 250 * n * 1048576) / 1048576000000000) (by omega)
theorem next_arg {lon t : Int} (h : lon < 0 ∨ 1000000000 ≤ lon) : Ev (fun k => season_Next.f k lon t) (0, 0, 1) := by
 unfold season_Next.f
 refine ev_some 1 fun k => ?_
 by_cases c : lon < 0
 ·rw [if_pos c, season_Next.j0, if_pos rfl]
 ·rw [if_neg c, decide_eq_true (by omega), season_Next.j0, if_pos rfl]
theorem next_range {lon t : Int} (l0 : 0 ≤ lon) (l1 : lon < 1000000000) (h : ¬ (it (wrap64 (t - 1728000000)) = 0 ∧ it (wrap64 (t + 34560000000)) = 0)) : Ev (fun k => season_Next.f k lon t) (0, 0, 3) := by
 have vd : ∀ x, decide (-345600000000000 ≤ x ∧ x < 345600086400000) = decide (it x = 0) := by
  intro x
  unfold it
  by_cases c : -345600000000000 ≤ x ∧ x < 345600086400000
  ·rw [if_pos c, decide_eq_true c]; rfl
  ·rw [if_neg c, decide_eq_false c]; rfl
 unfold season_Next.f
 refine ev_some 2 fun k => ?_
 rw [if_neg (by omega), decide_eq_false (show ¬ lon ≥ 1000000000 by omega), season_Next.j0, if_neg (by simp), valid_at, valid_at, vd, vd, Option.bind_some, Option.bind_some]
 by_cases c1 : it (wrap64 (t - 1728000000)) = 0
 ·have c2 : ¬ it (wrap64 (t + 34560000000)) = 0 := fun c => h ⟨c1, c⟩
  rw [decide_eq_true c1, if_pos rfl, decide_eq_false c2, season_Next.j1, if_pos (by rfl)]
 ·rw [decide_eq_false c1, if_neg (by simp), season_Next.j1, if_pos rfl]
end Go.Proofs.Ytedakilpogagiaa.SeasT
