/- The law TopSeasons: its parameters opened as data, and its pure statement. -/
import Derived.Test.YtmahlfjnejbcnaaTopSeasonsn17
import Derived.Test.YtmahlfjnejbcnaaTopSeasonsn15
namespace Go.Proofs.Ytmahlfjnejbcnaa.PAll
open Go.RowKit YtmahlfjnejbcnaaW.PrintWords YtmahlfjnejbcnaaW.PrintLast YtmahlfjnejbcnaaW.PrintMore Opn
section
end
def PureX : Prop := ∀ (a0 : Int) (a1 : Int), I64 a0 → I64 a1 → ∃ k, ephemeristop_TopSeasons.f k a0 a1 = some true
end Go.Proofs.Ytmahlfjnejbcnaa.PAll
