/- What an interval of numbers of the unit 10 ^ -9 tells of the reference's sine and cosine. -/
import Derived.Test.YtedakilpogagiaaDialLinesn13
import Derived.Test.YtedakilpogagiaaDialLinesn25
import Derived.Test.YtedakilpogagiaaDialLinesn26
namespace Go.Proofs.Ytedakilpogagiaa.Units
open Go.RowKit Go.Proofs.YtedakilpogagiaaW.PrintWords Go.Proofs.YtedakilpogagiaaW.PrintLast Go.Proofs.Ytedakilpogagiaa.Opn Go.Proofs.Ytedakilpogagiaa.PAll Go.Proofs.Ytedakilpogagiaa.Base Go.Proofs.Ytedakilpogagiaa.Turn Go.Proofs.Ytedakilpogagiaa.Fix Go.Proofs.Ytedakilpogagiaa.Oct Go.Proofs.Ytedakilpogagiaa.OctT Go.Proofs.Ytedakilpogagiaa.SinT Go.Proofs.Ytedakilpogagiaa.RefT Go.Proofs.Ytedakilpogagiaa.Circ Go.Proofs.Ytedakilpogagiaa.Over Go.Proofs.Ytedakilpogagiaa.Norm
set_option linter.unusedVariables false
set_option linter.unusedSimpArgs false
theorem sincos_ev {a : Int} (ha : -9223372036854775808 ≤ a) : ∃ s c : Int, Ev (fun k => ephemerisref2_SinCos.f k a) (s, c) ∧ (-1600000 ≤ (s : Rat) - u * S a ∧ (s : Rat) - u * S a ≤ 1600000) ∧ (-1600000 ≤ (c : Rat) - u * C a ∧ (c : Rat) - u * C a ≤ 1600000) ∧
  (-1152921504608446976 ≤ s ∧ s ≤ 1152921504608446976) ∧ (-1152921504608446976 ≤ c ∧ c ≤ 1152921504608446976) := by
 obtain ⟨s, c, rf, e1, e2, e3, e4⟩ := sincos_tells ha
 exact ⟨s, c, ev_some 13 rf, e1, e2, e3, e4⟩
end Go.Proofs.Ytedakilpogagiaa.Units
