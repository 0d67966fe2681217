/- The law DialLines: its parameters opened as data, and its pure statement. -/
import Derived.Test.YtedakilpogagiaaDialLinesn15
import Derived.Test.YtedakilpogagiaaDialLinesn14
namespace Go.Proofs.Ytedakilpogagiaa.PAll
open Go.RowKit Go.Proofs.YtedakilpogagiaaW.PrintWords Go.Proofs.YtedakilpogagiaaW.PrintLast Go.Proofs.YtedakilpogagiaaW.PrintMore Go.Proofs.Ytedakilpogagiaa.Opn
section
end
def PureX : Prop := ∀ (a0 : Int) (a1 : Int), I64 a0 → I64 a1 → ∃ k, ephemerislaw2_DialLines.f k a0 a1 = some true
end Go.Proofs.Ytedakilpogagiaa.PAll
