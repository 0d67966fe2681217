/- The law SunAts: its parameters opened as data, and its pure statement. -/
import Derived.Test.YtedakilpogagiaaSunAtsn19
import Derived.Test.YtedakilpogagiaaSunAtsn18
namespace Go.Proofs.Ytedakilpogagiaa.PAll
open Go.RowKit Go.Proofs.YtedakilpogagiaaW.PrintWords Go.Proofs.YtedakilpogagiaaW.PrintLast Go.Proofs.YtedakilpogagiaaW.PrintMore Go.Proofs.Ytedakilpogagiaa.Opn
section
end
def PureX : Prop := ∀ (a0 : Int) (a1 : Int), I64 a0 → I64 a1 → ∃ k, ephemerislaw2_SunAts.f k a0 a1 = some true
end Go.Proofs.Ytedakilpogagiaa.PAll
