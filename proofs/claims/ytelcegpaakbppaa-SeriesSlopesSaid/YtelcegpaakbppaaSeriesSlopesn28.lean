/- Scale, and sums of terms: the program's intervals hold the reference's sums. -/
import Derived.Test.YtelcegpaakbppaaSeriesSlopesn5
import Derived.Test.YtelcegpaakbppaaSeriesSlopesn6
import Derived.Test.YtelcegpaakbppaaSeriesSlopesn9
import Derived.Test.YtelcegpaakbppaaSeriesSlopesn10
import Derived.Test.YtelcegpaakbppaaSeriesSlopesn11
import Derived.Test.YtelcegpaakbppaaSeriesSlopesn12
import Derived.Test.YtelcegpaakbppaaSeriesSlopesn13
import Derived.Test.YtelcegpaakbppaaSeriesSlopesn26
import Derived.Test.YtelcegpaakbppaaSeriesSlopesn27
namespace Go.Proofs.Ytelcegpaakbppaa.Vals
open Go.RowKit Go.Proofs.YtelcegpaakbppaaW.PrintWords Go.Proofs.YtelcegpaakbppaaW.PrintLast Go.Proofs.YtelcegpaakbppaaW.PrintMore Go.Proofs.Ytelcegpaakbppaa.Opn Go.Proofs.Ytelcegpaakbppaa.PAll Go.Proofs.Ytelcegpaakbppaa.Base Go.Proofs.Ytelcegpaakbppaa.Turn Go.Proofs.Ytelcegpaakbppaa.Fix Go.Proofs.Ytelcegpaakbppaa.OctT Go.Proofs.Ytelcegpaakbppaa.SinT Go.Proofs.Ytelcegpaakbppaa.RefT Go.Proofs.Ytelcegpaakbppaa.Circ Go.Proofs.Ytelcegpaakbppaa.Units Go.Proofs.Ytelcegpaakbppaa.Args Go.Proofs.Ytelcegpaakbppaa.SumsT
set_option linter.unusedVariables false
set_option linter.unusedSimpArgs false
/-- The part of any amount. -/
theorem part_any {a s : Int} (a1 : -1000000000 ≤ a) (a2 : a ≤ 1000000000) (h1 : -1152921504606849376 ≤ s) (h2 : s ≤ 1152921504606849376) : ∃ p : Int, ephemerisref2_Part.f a s = some p ∧ p * 1099511627776 < a * s + 1099511627776 ∧ a * s < p * 1099511627776 + 1099511627776 ∧ -1100000000000000 ≤ p ∧ p ≤ 1100000000000000 := by
  have core : ∀ v, 0 ≤ v → v ≤ 1152921504606849376 → ∃ p, (wrap64 ((wrap64 (a * (v / 1073741824))) + ((wrap64 (a * (v % 1073741824))) / 1073741824))) / 1024 = p ∧ p * 1099511627776 ≤ a * v ∧ a * v < p * 1099511627776 + 1099511627776 ∧ -1100000000000000 ≤ p ∧ p ≤ 1100000000000000 := by
    intro v v0 v1
    have x1 : -1000000000 * 1073741827 ≤ a * (v / 1073741824) ∧ a * (v / 1073741824) ≤ 1000000000 * 1073741827 := by
      have k1 := Int.mul_le_mul_of_nonneg_right a1 (show 0 ≤ v / 1073741824 by omega)
      have k2 := Int.mul_le_mul_of_nonneg_right a2 (show 0 ≤ v / 1073741824 by omega)
      constructor <;> omega
    have x2 : -1000000000 * 1073741824 ≤ a * (v % 1073741824) ∧ a * (v % 1073741824) ≤ 1000000000 * 1073741824 := by
      have k1 := Int.mul_le_mul_of_nonneg_right a1 (show 0 ≤ v % 1073741824 by omega)
      have k2 := Int.mul_le_mul_of_nonneg_right a2 (show 0 ≤ v % 1073741824 by omega)
      constructor <;> omega
    have e : a * v = a * (v / 1073741824) * 1073741824 + a * (v % 1073741824) := by
      have : v = v / 1073741824 * 1073741824 + v % 1073741824 := by omega
      conv => lhs; rw [this]
      rw [Int.mul_add, Int.mul_assoc]
    rw [e]
    generalize a * (v / 1073741824) = X at *
    generalize a * (v % 1073741824) = Y at *
    rw [w64 (x := X) (by omega) (by omega), w64 (x := Y) (by omega) (by omega), w64 (by omega) (by omega)]
    exact ⟨_, rfl, by omega, by omega, by omega, by omega⟩
  unfold ephemerisref2_Part.f
  by_cases c : s < 0
  · obtain ⟨p, e, p1, p2, p3, p4⟩ := core (-s) (by omega) (by omega)
    rw [if_pos c, w64 (x := -s) (by omega) (by omega), low30 (show 0 ≤ -s by omega) (by omega), e, w64 (by omega) (by omega)]
    rw [Int.mul_neg] at p1 p2
    exact ⟨_, rfl, by omega, by omega, by omega, by omega⟩
  · obtain ⟨p, e, p1, p2, p3, p4⟩ := core s (by omega) (by omega)
    rw [if_neg c, low30 (show 0 ≤ s by omega) (by omega), e, w64 (by omega) (by omega)]
    exact ⟨_, rfl, by omega, by omega, by omega, by omega⟩
/-- An instant. -/
def it (t : Int) : Int := if -345600000000000 ≤ t ∧ t < 345600086400000 then 0 else 3
theorem instErr_at (t : Int) : ephemerisref2_InstantErr.f t = some (it t) := by
  unfold ephemerisref2_InstantErr.f it
  by_cases c : t < -345600000000000
  · rw [if_pos c, if_neg (by omega)]
  · rw [if_neg c]
    by_cases d : t ≥ 345600086400000
    · rw [if_pos d, if_neg (by omega)]
    · rw [if_neg d, if_pos (by omega)]
theorem it_zero {t : Int} (h : it t = 0) : -345600000000000 ≤ t ∧ t < 345600086400000 := by
  unfold it at h
  split at h
  · assumption
  · cases h
end Go.Proofs.Ytelcegpaakbppaa.Vals
