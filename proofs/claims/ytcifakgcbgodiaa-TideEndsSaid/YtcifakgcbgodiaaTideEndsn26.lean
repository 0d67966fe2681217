/- What an interval of numbers of the unit 10 ^ -9 tells of the reference's sine and cosine. -/
import Derived.Test.YtcifakgcbgodiaaTideEndsn24
import Derived.Test.YtcifakgcbgodiaaTideEndsn25
namespace Go.Proofs.Ytcifakgcbgodiaa.Units
open Go.RowKit YtcifakgcbgodiaaW.PrintWords YtcifakgcbgodiaaW.PrintLast Opn PAll Base Turn Fix Oct OctT SinT RefT Circ Over Norm
set_option linter.unusedVariables false
set_option linter.unusedSimpArgs false
theorem sincos_ev2 {a : Int} (ha : -9223372036854775808 ≤ a) : ∃ s c : Int, Ev (fun k => ephemerisref2_SinCos.f k a) (s, c) ∧ (-1600000 ≤ (s : Rat) - u * S a ∧ (s : Rat) - u * S a ≤ 1600000) ∧ (-1600000 ≤ (c : Rat) - u * C a ∧ (c : Rat) - u * C a ≤ 1600000) ∧
  (-1152921504606849376 ≤ s ∧ s ≤ 1152921504606849376) ∧ (-1152921504606849376 ≤ c ∧ c ≤ 1152921504606849376) := by
 obtain ⟨s, c, rf, e1, e2, e3, e4⟩ := sincos_all ha
 exact ⟨s, c, ev_some 13 rf, e1, e2, e3, e4⟩
end Go.Proofs.Ytcifakgcbgodiaa.Units
