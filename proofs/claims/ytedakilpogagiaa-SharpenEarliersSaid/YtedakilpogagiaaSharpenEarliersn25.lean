/- Numbers in the unit of 2 to the power of -60: products, and the sums of octant; how far they are from the rotations. -/
import Derived.Test.YtedakilpogagiaaSharpenEarliersn5
import Derived.Test.YtedakilpogagiaaSharpenEarliersn23
import Derived.Test.YtedakilpogagiaaSharpenEarliersn24
namespace Go.Proofs.Ytedakilpogagiaa.Fix
open Go.RowKit YtedakilpogagiaaW.PrintWords YtedakilpogagiaaW.PrintLast Opn PAll Base Turn
set_option linter.unusedVariables false
set_option linter.unusedSimpArgs false
def fm (a b : Int) : Int := (a / 1073741824) * (b / 1073741824) + ((a / 1073741824) * (b % 1073741824) + (a % 1073741824) * (b / 1073741824) + (a % 1073741824) * (b % 1073741824) / 1073741824) / 1073741824
def rm (a b : Int) : Int := (if (a < 0) = (b < 0) then 1 else -1) * fm (if a < 0 then -a else a) (if b < 0 then -b else b)
end Go.Proofs.Ytedakilpogagiaa.Fix
