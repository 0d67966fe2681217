/- The sums of the sun and the moon at two instants: how large they are, and how fast they change. -/
import Derived.Test.YtedakilpogagiaaSharpenEarliersn33
namespace Go.Proofs.Ytedakilpogagiaa.SlpT
open Go.RowKit YtedakilpogagiaaW.PrintWords YtedakilpogagiaaW.PrintLast YtedakilpogagiaaW.PrintMore Opn PAll Base OctT RefT Circ Over Units SumsT Vals
set_option linter.unusedVariables false
set_option linter.unusedSimpArgs false
def cs (c : S94 → Int) : List S94 → Int
 | [] => 0
 | x :: r => c x + cs c r
def U (b t : Int) : Int := b * t / 86400000 / 1000000 * 1048576 + b * t / 86400000 % 1000000 * 1048576 / 1000000
def Wm (t dm : Int) : Int := 392048814 * 1048576 + dm + U 36601101305556 t
def Ws (t ds : Int) : Int := 775342092 * 1048576 + ds + U 2737909333333 t
def X (L q t dm ds : Int) : Int := Wm t dm - Ws t ds - (L * 1000000000 + q * 250000000) * 1048576
end Go.Proofs.Ytedakilpogagiaa.SlpT
