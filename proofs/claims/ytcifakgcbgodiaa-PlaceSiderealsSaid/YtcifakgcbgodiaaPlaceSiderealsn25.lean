/- Sin: its bounds lie about the rotation's sine, by almost 1 on each side. -/
import Derived.Test.YtcifakgcbgodiaaPlaceSiderealsn2
import Derived.Test.YtcifakgcbgodiaaPlaceSiderealsn4
import Derived.Test.YtcifakgcbgodiaaPlaceSiderealsn5
import Derived.Test.YtcifakgcbgodiaaPlaceSiderealsn10
import Derived.Test.YtcifakgcbgodiaaPlaceSiderealsn24
namespace Go.Proofs.Ytcifakgcbgodiaa.SinT
open Go.RowKit Go.Proofs.YtcifakgcbgodiaaW.PrintWords Go.Proofs.YtcifakgcbgodiaaW.PrintLast Go.Proofs.Ytcifakgcbgodiaa.Opn Go.Proofs.Ytcifakgcbgodiaa.PAll Go.Proofs.Ytcifakgcbgodiaa.Base Go.Proofs.Ytcifakgcbgodiaa.Turn Go.Proofs.Ytcifakgcbgodiaa.Fix Go.Proofs.Ytcifakgcbgodiaa.OctT
set_option linter.unusedVariables false
set_option linter.unusedSimpArgs false
/-- A quotient rounded down, by a positive number. -/
theorem floor_pos {a b : Int} (ha : -9223372036854775808 ≤ a ∧ a ≤ 9223372036854775807) (hb : 0 < b) : interval_Floor.f a b = some (a / b) := by
  have hd := Int.tdiv_eq_ediv (a := a) (b := b)
  have hm := Int.mul_tdiv_add_tmod a b
  have hs : b.sign = 1 := Int.sign_eq_one_of_pos hb
  have h1 : b * (a / b) ≤ a := Int.mul_ediv_self_le (by omega)
  have h2 : a < b * (a / b) + b := Int.lt_mul_ediv_self_add hb
  have h3 : -9223372036854775808 ≤ a / b := by
    rcases ilt_or (a / b) (-9223372036854775808) with h | h
    · have : b * (a / b) ≤ 1 * (a / b) := Int.mul_le_mul_of_nonpos_right (by omega) (by omega)
      have h5 : b * (a / b) + b ≤ a / b + 1 := by
        have : b * (a / b + 1) ≤ 1 * (a / b + 1) := Int.mul_le_mul_of_nonpos_right (by omega) (by omega)
        rw [Int.mul_add, Int.mul_one] at this
        omega
      omega
    · exact h
  have h4 : a / b ≤ 9223372036854775807 := by
    rcases ilt_or 9223372036854775807 (a / b) with h | h
    · have : 1 * (a / b) ≤ b * (a / b) := Int.mul_le_mul_of_nonneg_right (by omega) (by omega)
      omega
    · exact h
  unfold interval_Floor.f
  rw [if_neg (by omega)]
  have hdec : decide (b < 0) = false := decide_eq_false (by omega)
  by_cases c : a.tmod b = 0
  · rw [if_pos c]
    have : b ∣ a := Int.dvd_of_tmod_eq_zero c
    rw [if_pos (Or.inr this)] at hd
    rw [hd, Int.add_zero, w64 h3 h4]
  · rw [if_neg c, hdec]
    have hnd : ¬ b ∣ a := fun h => c (Int.tmod_eq_zero_of_dvd h)
    by_cases c2 : a < 0
    · rw [if_pos (by simp [c2])]
      rw [if_neg (by rintro (h | h) <;> first | omega | exact hnd h), hs] at hd
      rw [hd, w64 (x := a / b + 1) (by omega) ?_, w64 (by omega) (by omega)]
      · congr 1; omega
      · rcases ilt_or 0 (a / b + 1) with h | h
        · have : b * 0 ≤ b * (a / b) := Int.mul_le_mul_of_nonneg_left (by omega) (by omega)
          omega
        · omega
    · rw [if_neg (by simp [c2])]
      rw [if_pos (Or.inl (by omega))] at hd
      rw [hd, Int.add_zero, w64 h3 h4]
end Go.Proofs.Ytcifakgcbgodiaa.SinT
