/- What an interval of numbers of the unit 10 ^ -9 tells of the reference's sine and cosine. -/
import Derived.Test.YtedakilpogagiaaSharpenEarliersn29
import Derived.Test.YtedakilpogagiaaSharpenEarliersn30
namespace Go.Proofs.Ytedakilpogagiaa.Units
open Go.RowKit YtedakilpogagiaaW.PrintWords YtedakilpogagiaaW.PrintLast Opn PAll Base Turn Fix OctT RefT Circ Over Norm
set_option linter.unusedVariables false
set_option linter.unusedSimpArgs false
theorem spanErr_at (k : Nat) (a b : Int) : ephemerisref2_SpanErr.f (k + 1) a b = some (sp a b) := by
 unfold ephemerisref2_SpanErr.f sp
 by_cases c1 : a < -1000000000000000000
 ·simp [c1, ephemerisref2_SpanErr.j0]
 by_cases c2 : a > 1000000000000000000
 ·simp [c1, c2, ephemerisref2_SpanErr.j0]
 by_cases c3 : b < -1000000000000000000
 ·simp [c1, c2, c3, ephemerisref2_SpanErr.j0]
 by_cases c4 : b > 1000000000000000000
 ·simp [c1, c2, c3, c4, ephemerisref2_SpanErr.j0]
 by_cases c5 : b < a
 ·simp [c1, c2, c3, c4, c5, ephemerisref2_SpanErr.j0]
 ·simp [c1, c2, c3, c4, c5, ephemerisref2_SpanErr.j0]
theorem spanErr_ev (a b : Int) : Ev (fun k => ephemerisref2_SpanErr.f k a b) (sp a b) := ev_some 1 fun k => spanErr_at k a b
end Go.Proofs.Ytedakilpogagiaa.Units
