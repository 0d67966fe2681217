/- What an interval of numbers of the unit 10 ^ -9 tells of the reference's sine and cosine. -/
import Derived.Test.YtelcegpaakbppaaTrigArcSinsn5
import Derived.Test.YtelcegpaakbppaaTrigArcSinsn3
import Derived.Test.YtelcegpaakbppaaTrigArcSinsn12
import Derived.Test.YtelcegpaakbppaaTrigArcSinsn6
import Derived.Test.YtelcegpaakbppaaTrigArcSinsn7
import Derived.Test.YtelcegpaakbppaaTrigArcSinsn23
import Derived.Test.YtelcegpaakbppaaTrigArcSinsn24
namespace Go.Proofs.Ytelcegpaakbppaa.Units
open Go.RowKit Go.Proofs.YtelcegpaakbppaaW.PrintWords Go.Proofs.YtelcegpaakbppaaW.PrintLast Go.Proofs.Ytelcegpaakbppaa.Opn Go.Proofs.Ytelcegpaakbppaa.PAll Go.Proofs.Ytelcegpaakbppaa.Base Go.Proofs.Ytelcegpaakbppaa.Turn Go.Proofs.Ytelcegpaakbppaa.Fix Go.Proofs.Ytelcegpaakbppaa.Oct Go.Proofs.Ytelcegpaakbppaa.OctT Go.Proofs.Ytelcegpaakbppaa.SinT Go.Proofs.Ytelcegpaakbppaa.RefT Go.Proofs.Ytelcegpaakbppaa.Circ Go.Proofs.Ytelcegpaakbppaa.Over Go.Proofs.Ytelcegpaakbppaa.Norm
set_option linter.unusedVariables false
set_option linter.unusedSimpArgs false
theorem spanErr_at (k : Nat) (a b : Int) : ephemerisref2_SpanErr.f (k + 1) a b = some (sp a b) := by
  unfold ephemerisref2_SpanErr.f sp
  by_cases c1 : a < -1000000000000000000
  · simp [c1, ephemerisref2_SpanErr.j0]
  by_cases c2 : a > 1000000000000000000
  · simp [c1, c2, ephemerisref2_SpanErr.j0]
  by_cases c3 : b < -1000000000000000000
  · simp [c1, c2, c3, ephemerisref2_SpanErr.j0]
  by_cases c4 : b > 1000000000000000000
  · simp [c1, c2, c3, c4, ephemerisref2_SpanErr.j0]
  by_cases c5 : b < a
  · simp [c1, c2, c3, c4, c5, ephemerisref2_SpanErr.j0]
  · simp [c1, c2, c3, c4, c5, ephemerisref2_SpanErr.j0]
theorem spanErr_ev (a b : Int) : Ev (fun k => ephemerisref2_SpanErr.f k a b) (sp a b) := ev_some 1 fun k => spanErr_at k a b
/-- The reference's sine and cosine. -/
theorem sincos_ev {a : Int} (ha : -9223372036854775808 ≤ a) : ∃ s c : Int, Ev (fun k => ephemerisref2_SinCos.f k a) (s, c) ∧ (-1600000 ≤ (s : Rat) - u * S a ∧ (s : Rat) - u * S a ≤ 1600000) ∧ (-1600000 ≤ (c : Rat) - u * C a ∧ (c : Rat) - u * C a ≤ 1600000) ∧
    (-1152921504608446976 ≤ s ∧ s ≤ 1152921504608446976) ∧ (-1152921504608446976 ≤ c ∧ c ≤ 1152921504608446976) := by
  obtain ⟨s, c, rf, e1, e2, e3, e4⟩ := sincos_tells ha
  exact ⟨s, c, ev_some 13 rf, e1, e2, e3, e4⟩
end Go.Proofs.Ytelcegpaakbppaa.Units
