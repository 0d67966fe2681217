/- Small laws for the pure statements of this seat: whole numbers that do not wrap, suffixes of lists, rounds. -/
import Derived.Test.YtflnkfppkcjegaaIntervalMeetsn11
namespace Go.Proofs.Ytflnkfppkcjegaa.Base
open Go.RowKit Go.Proofs.YtflnkfppkcjegaaW.PrintWords Go.Proofs.Ytflnkfppkcjegaa.Opn
theorem w64 {x : Int} (h1 : -9223372036854775808 ≤ x) (h2 : x ≤ 9223372036854775807) : wrap64 x = x := by unfold wrap64; omega
end Go.Proofs.Ytflnkfppkcjegaa.Base
