/- SinOver and CosOver: what they tell holds the sines of all arguments of an interval, and is narrow. -/
import Derived.Test.YtedakilpogagiaaSharpenEarliersn7
import Derived.Test.YtedakilpogagiaaSharpenEarliersn28
namespace Go.Proofs.Ytedakilpogagiaa.Over
open Go.RowKit YtedakilpogagiaaW.PrintWords YtedakilpogagiaaW.PrintLast Opn PAll Base Turn Fix OctT RefT Circ
set_option linter.unusedVariables false
set_option linter.unusedSimpArgs false
def sp (a b : Int) : Int := if a < -1000000000000000000 ∨ a > 1000000000000000000 ∨ b < -1000000000000000000 ∨ b > 1000000000000000000 then 3 else if b < a then 9 else 0
theorem interval_Check_at (k : Nat) (a b : Int) : interval_Check.f (k + 1) a b = some (sp a b) := by
 unfold interval_Check.f interval_out.f sp
 by_cases c1 : a < -1000000000000000000
 ·simp [c1, interval_Check.j0]
 by_cases c2 : a > 1000000000000000000
 ·simp [c1, c2, interval_Check.j0]
 by_cases c3 : b < -1000000000000000000
 ·simp [c1, c2, c3, interval_Check.j0]
 by_cases c4 : b > 1000000000000000000
 ·simp [c1, c2, c3, c4, interval_Check.j0]
 by_cases c5 : b < a
 ·simp [c1, c2, c3, c4, c5, interval_Check.j0]
 ·simp [c1, c2, c3, c4, c5, interval_Check.j0]
theorem interval_Check_ev (a b : Int) : Ev (fun k => interval_Check.f k a b) (sp a b) := ev_some 1 fun k => interval_Check_at k a b
end Go.Proofs.Ytedakilpogagiaa.Over
