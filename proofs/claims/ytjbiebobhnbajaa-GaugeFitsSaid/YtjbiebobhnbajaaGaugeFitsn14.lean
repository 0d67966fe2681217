/- The law GaugeFits: its parameters opened as data, and its pure statement. -/
import Derived.Test.YtjbiebobhnbajaaGaugeFitsn13
import Derived.Test.YtjbiebobhnbajaaGaugeFitsn12
namespace Go.Proofs.Ytjbiebobhnbajaa.PAll
open Go.RowKit Go.Proofs.YtjbiebobhnbajaaW.PrintWords Go.Proofs.YtjbiebobhnbajaaW.PrintLast Go.Proofs.YtjbiebobhnbajaaW.PrintMore Go.Proofs.Ytjbiebobhnbajaa.Opn
section
end
def PureX : Prop := ∀ (l0 : List (List Int)) (l1 : List Int), ListOk (ListOk I64) l0 → ListOk I64 l1 → ∃ k, ephemerislaw2_GaugeFits.f k l0 l1 = some true
end Go.Proofs.Ytjbiebobhnbajaa.PAll
