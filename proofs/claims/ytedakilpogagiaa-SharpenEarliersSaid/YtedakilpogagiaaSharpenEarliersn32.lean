/- Check, SumErr and Bound of sums of terms. -/
import Derived.Test.YtedakilpogagiaaSharpenEarliersn4
import Derived.Test.YtedakilpogagiaaSharpenEarliersn23
namespace Go.Proofs.Ytedakilpogagiaa.SumsT
open Go.RowKit YtedakilpogagiaaW.PrintWords YtedakilpogagiaaW.PrintLast YtedakilpogagiaaW.PrintMore Opn PAll Base
set_option linter.unusedVariables false
set_option linter.unusedSimpArgs false
def bad (x : S94) : Prop := x.f0 < -1000000000 ∨ 1000000000 < x.f0 ∨ x.f1 < 0 ∨ 1000000000 ≤ x.f1 ∨ x.f2 < -4000000000000000 ∨ 4000000000000000 < x.f2
instance (x : S94) : Decidable (bad x) := by unfold bad; infer_instance
def ts : List S94 → Int
 | [] => 0
 | x :: t => if bad x then 3 else ts t
def hb (a b d : Int) : Prop := a < -1000000000 ∨ 1000000000 < a ∨ b < -4000000000000000 ∨ 4000000000000000 < b ∨ d < 0 ∨ 100000000 < d
instance (a b d : Int) : Decidable (hb a b d) := by unfold hb; infer_instance
end Go.Proofs.Ytedakilpogagiaa.SumsT
