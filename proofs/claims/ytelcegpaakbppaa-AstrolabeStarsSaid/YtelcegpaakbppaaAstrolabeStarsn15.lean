/- The law AstrolabeStars: its parameters opened as data, and its pure statement. -/
import Derived.Test.YtelcegpaakbppaaAstrolabeStarsn14
import Derived.Test.YtelcegpaakbppaaAstrolabeStarsn13
namespace Go.Proofs.Ytelcegpaakbppaa.PAll
open Go.RowKit Go.Proofs.YtelcegpaakbppaaW.PrintWords Go.Proofs.YtelcegpaakbppaaW.PrintLast Go.Proofs.YtelcegpaakbppaaW.PrintMore Go.Proofs.Ytelcegpaakbppaa.Opn
section
end
def PureX : Prop := ∀ (a0 : Int) (a1 : Int), I64 a0 → I64 a1 → ∃ k, ephemerislaw2_AstrolabeStars.f k a0 a1 = some true
end Go.Proofs.Ytelcegpaakbppaa.PAll
