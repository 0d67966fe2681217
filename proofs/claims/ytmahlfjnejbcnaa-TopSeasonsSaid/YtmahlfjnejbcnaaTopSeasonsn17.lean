/- Opening an argument as data: what the reading of a value's cells tells, kind by kind; lemmas for the rows of this seat. -/
import Derived.Test.YtmahlfjnejbcnaaTopSeasonsn0
import Derived.Deep.Slices
import Derived.ChangeArms
import Derived.SizedLaws
namespace Go.Proofs.Ytmahlfjnejbcnaa.Opn
open Go.RowKit YtmahlfjnejbcnaaW.PrintWords Go.ChangeShapes Go.WideShapes
def I64 (n : Int) : Prop := -9223372036854775808 ≤ n ∧ n ≤ 9223372036854775807
theorem i64_of {n : Int} (hn : (Lit.int .i64 n).wf = true) : I64 n := by
 simp only [Lit.wf, IntKind.min, IntKind.max, IntKind.signed, IntKind.bits, Bool.and_eq_true, decide_eq_true_eq, if_true] at hn
 unfold I64
 omega
section
end
end Go.Proofs.Ytmahlfjnejbcnaa.Opn
