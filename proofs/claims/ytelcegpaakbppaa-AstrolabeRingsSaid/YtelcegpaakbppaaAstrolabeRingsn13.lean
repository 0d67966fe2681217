/- The law AstrolabeRings: its parameters opened as data, and its pure statement. -/
import Derived.Test.YtelcegpaakbppaaAstrolabeRingsn12
import Derived.Test.YtelcegpaakbppaaAstrolabeRingsn11
namespace Go.Proofs.Ytelcegpaakbppaa.PAll
open Go.RowKit Go.Proofs.YtelcegpaakbppaaW.PrintWords Go.Proofs.YtelcegpaakbppaaW.PrintLast Go.Proofs.YtelcegpaakbppaaW.PrintMore Go.Proofs.Ytelcegpaakbppaa.Opn
section
end
def PureX : Prop := ∀ (a0 : Int), I64 a0 → ∃ k, ephemerislaw2_AstrolabeRings.f k a0 = some true
end Go.Proofs.Ytelcegpaakbppaa.PAll
