/- The law MoonAts: its parameters opened as data, and its pure statement. -/
import Derived.Test.YtedakilpogagiaaMoonAtsn19
import Derived.Test.YtedakilpogagiaaMoonAtsn18
namespace Go.Proofs.Ytedakilpogagiaa.PAll
open Go.RowKit Go.Proofs.YtedakilpogagiaaW.PrintWords Go.Proofs.YtedakilpogagiaaW.PrintLast Go.Proofs.YtedakilpogagiaaW.PrintMore Go.Proofs.Ytedakilpogagiaa.Opn
section
end
def PureX : Prop := ∀ (a0 : Int) (a1 : Int) (a2 : Int), I64 a0 → I64 a1 → I64 a2 → ∃ k, ephemerislaw2_MoonAts.f k a0 a1 a2 = some true
end Go.Proofs.Ytedakilpogagiaa.PAll
