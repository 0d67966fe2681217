/- What the laws of the seasons need: ahead, and the errors of Next and Find. -/
import Derived.Test.YtmahlfjnejbcnaaSharpenSeasonsn43
import Derived.Test.YtmahlfjnejbcnaaSharpenSeasonsn44
namespace Go.Proofs.Ytmahlfjnejbcnaa.SeasT
open Go Go.RowKit YtmahlfjnejbcnaaW.PrintWords YtmahlfjnejbcnaaW.PrintLast YtmahlfjnejbcnaaW.PrintMore Opn PAll Base SinT Over RefT Units SumsT Vals SkyT SlpT PhaseT SunT YearT
set_option linter.unusedVariables false
set_option linter.unusedSimpArgs false
theorem ahead_g {w g v : Int} (w0 : 0 ≤ w) (w1 : w < 1048576000000000) (g0 : 0 ≤ g) (g1 : g < 1000000000) (v0 : -524288000000000 ≤ v) (v1 : v < 524288000000000) (m : Int) (e : w - g * 1048576 = v + m * 1048576000000000) : ephemerislaw2_ahead.f w (wrap64 (g * 1048576)) = some v := by
 unfold ephemerislaw2_ahead.f
 rw [w64 (x := g * 1048576) (by omega) (by omega), w64 (x := w - g * 1048576) (by omega) (by omega), w64 (x := w - g * 1048576 + 524288000000000) (by omega) (by omega), mod_pos (by omega) (by omega), Option.bind_some, w64 (by omega) (by omega)]
 congr 1
 omega
theorem ahead_s {z lon x dx g n : Int} (hx : -100000000 * 1048576 ≤ Y z lon x dx ∧ Y z lon x dx ≤ 100000000 * 1048576) (g0 : 0 ≤ g) (g1 : g < 1000000000) (hg : lon % 1000000000 = g) (n1 : -8 ≤ n) (n2 : n ≤ 8) : ephemerislaw2_ahead.f ((Ws x dx + 250 * n * 1048576) % 1048576000000000) (wrap64 (g * 1048576)) = some (Y z lon x dx + 250 * n * 1048576) := by
 have hy : Y z lon x dx = Ws x dx + z * 1048576000000000 - lon * 1048576 := rfl
 generalize Y z lon x dx = y at *
 generalize Ws x dx = W at *
 exact ahead_g (by omega) (by omega) g0 g1 (by omega) (by omega) (-z + lon / 1000000000 - (W + 250 * n * 1048576) / 1048576000000000) (by omega)
end Go.Proofs.Ytmahlfjnejbcnaa.SeasT
