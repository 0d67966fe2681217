/- SinOver and CosOver: what they tell holds the sines of all arguments of an interval, and is narrow. -/
import Derived.Test.YtelcegpaakbppaaTrigArcSinsn5
import Derived.Test.YtelcegpaakbppaaTrigArcSinsn6
import Derived.Test.YtelcegpaakbppaaTrigArcSinsn3
import Derived.Test.YtelcegpaakbppaaTrigArcSinsn7
import Derived.Test.YtelcegpaakbppaaTrigArcSinsn12
import Derived.Test.YtelcegpaakbppaaTrigArcSinsn22
namespace Go.Proofs.Ytelcegpaakbppaa.Over
open Go.RowKit Go.Proofs.YtelcegpaakbppaaW.PrintWords Go.Proofs.YtelcegpaakbppaaW.PrintLast Go.Proofs.Ytelcegpaakbppaa.Opn Go.Proofs.Ytelcegpaakbppaa.PAll Go.Proofs.Ytelcegpaakbppaa.Base Go.Proofs.Ytelcegpaakbppaa.Turn Go.Proofs.Ytelcegpaakbppaa.Fix Go.Proofs.Ytelcegpaakbppaa.Oct Go.Proofs.Ytelcegpaakbppaa.OctT Go.Proofs.Ytelcegpaakbppaa.SinT Go.Proofs.Ytelcegpaakbppaa.RefT Go.Proofs.Ytelcegpaakbppaa.Circ
set_option linter.unusedVariables false
set_option linter.unusedSimpArgs false
/-- What a pair of bounds is found to be. -/
def sp (a b : Int) : Int := if a < -1000000000000000000 ∨ a > 1000000000000000000 ∨ b < -1000000000000000000 ∨ b > 1000000000000000000 then 3 else if b < a then 9 else 0
theorem sp_zero {a b : Int} (h : sp a b = 0) : -1000000000000000000 ≤ a ∧ a ≤ b ∧ b ≤ 1000000000000000000 := by
  unfold sp at h
  split at h
  · cases h
  · split at h
    · cases h
    · omega
theorem interval_Check_at (k : Nat) (a b : Int) : interval_Check.f (k + 1) a b = some (sp a b) := by
  unfold interval_Check.f interval_out.f sp
  by_cases c1 : a < -1000000000000000000
  · simp [c1, interval_Check.j0]
  by_cases c2 : a > 1000000000000000000
  · simp [c1, c2, interval_Check.j0]
  by_cases c3 : b < -1000000000000000000
  · simp [c1, c2, c3, interval_Check.j0]
  by_cases c4 : b > 1000000000000000000
  · simp [c1, c2, c3, c4, interval_Check.j0]
  by_cases c5 : b < a
  · simp [c1, c2, c3, c4, c5, interval_Check.j0]
  · simp [c1, c2, c3, c4, c5, interval_Check.j0]
theorem interval_Check_ev (a b : Int) : Ev (fun k => interval_Check.f k a b) (sp a b) := ev_some 1 fun k => interval_Check_at k a b
theorem mxl {a b : Int} : a ≤ mx a b ∧ b ≤ mx a b := by unfold mx; split <;> omega
theorem mnl {a b : Int} : mn a b ≤ a ∧ mn a b ≤ b := by unfold mn; split <;> omega
theorem mx_or (a b : Int) : mx a b = a ∨ mx a b = b := by unfold mx; split <;> simp
theorem mn_or (a b : Int) : mn a b = a ∨ mn a b = b := by unfold mn; split <;> simp
end Go.Proofs.Ytelcegpaakbppaa.Over
