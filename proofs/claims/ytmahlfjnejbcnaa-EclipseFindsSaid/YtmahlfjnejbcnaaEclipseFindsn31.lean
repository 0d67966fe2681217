/- What an interval of numbers of the unit 10 ^ -9 tells of the reference's sine and cosine. -/
import Derived.Test.YtmahlfjnejbcnaaEclipseFindsn29
import Derived.Test.YtmahlfjnejbcnaaEclipseFindsn30
namespace Go.Proofs.Ytmahlfjnejbcnaa.Units
open Go.RowKit YtmahlfjnejbcnaaW.PrintWords YtmahlfjnejbcnaaW.PrintLast PAll Base Turn Fix Oct OctT SinT RefT Circ Over Norm
set_option linter.unusedVariables false
set_option linter.unusedSimpArgs false
theorem sincos_ev2 {a : Int} (ha : -9223372036854775808 ≤ a) : ∃ s c : Int, Ev (fun k => ephemerisref2_SinCos.f k a) (s, c) ∧ (-1600000 ≤ (s : Rat) - u * S a ∧ (s : Rat) - u * S a ≤ 1600000) ∧ (-1600000 ≤ (c : Rat) - u * C a ∧ (c : Rat) - u * C a ≤ 1600000) ∧
  (-1152921504606849376 ≤ s ∧ s ≤ 1152921504606849376) ∧ (-1152921504606849376 ≤ c ∧ c ≤ 1152921504606849376) := by
 obtain ⟨s, c, rf, e1, e2, e3, e4⟩ := sincos_all ha
 exact ⟨s, c, ev_some 13 rf, e1, e2, e3, e4⟩
theorem at_ok {k n : Int} (h0 : 0 < n) (h1 : n ≤ 4000000000000000000) : ∃ j, ephemerislaw2_at.f k n = some j ∧ 0 ≤ j ∧ j < n := by
 unfold ephemerislaw2_at.f
 rw [if_neg (by omega)]
 have a1 := Int.tmod_lt_of_pos k h0
 have a2 : -n < Int.tmod k n := by
  have := Int.lt_tmod_of_pos k h0
  omega
 rw [w64 (by omega) (by omega)]
 refine ⟨_, rfl, ?_, ?_⟩
 ·exact Int.tmod_nonneg _ (by omega)
 ·exact Int.tmod_lt_of_pos _ h0
end Go.Proofs.Ytmahlfjnejbcnaa.Units
