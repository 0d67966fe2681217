/- Sin: its bounds lie about the rotation's sine, by almost 1 on each side. -/
import Derived.Test.YtelcegpaakbppaaSeriesSlopesn20
namespace Go.Proofs.Ytelcegpaakbppaa.SinT
open Go.RowKit Go.Proofs.YtelcegpaakbppaaW.PrintWords Go.Proofs.YtelcegpaakbppaaW.PrintLast Go.Proofs.Ytelcegpaakbppaa.Opn Go.Proofs.Ytelcegpaakbppaa.PAll Go.Proofs.Ytelcegpaakbppaa.Base Go.Proofs.Ytelcegpaakbppaa.Turn Go.Proofs.Ytelcegpaakbppaa.Fix Go.Proofs.Ytelcegpaakbppaa.OctT
set_option linter.unusedVariables false
set_option linter.unusedSimpArgs false
/-- A quotient rounded down, by a positive number. -/
theorem floor_pos {a b : Int} (ha : -9223372036854775808 ≤ a ∧ a ≤ 9223372036854775807) (hb : 0 < b) : interval_Floor.f a b = some (a / b) := by
  have hd := Int.tdiv_eq_ediv (a := a) (b := b)
  have hm := Int.mul_tdiv_add_tmod a b
  have hs : b.sign = 1 := Int.sign_eq_one_of_pos hb
  have h1 : b * (a / b) ≤ a := Int.mul_ediv_self_le (by omega)
  have h2 : a < b * (a / b) + b := Int.lt_mul_ediv_self_add hb
  have h3 : -9223372036854775808 ≤ a / b := by
    rcases ilt_or (a / b) (-9223372036854775808) with h | h
    · have : b * (a / b) ≤ 1 * (a / b) := Int.mul_le_mul_of_nonpos_right (by omega) (by omega)
      have h5 : b * (a / b) + b ≤ a / b + 1 := by
        have : b * (a / b + 1) ≤ 1 * (a / b + 1) := Int.mul_le_mul_of_nonpos_right (by omega) (by omega)
        rw [Int.mul_add, Int.mul_one] at this
        omega
      omega
    · exact h
  have h4 : a / b ≤ 9223372036854775807 := by
    rcases ilt_or 9223372036854775807 (a / b) with h | h
    · have : 1 * (a / b) ≤ b * (a / b) := Int.mul_le_mul_of_nonneg_right (by omega) (by omega)
      omega
    · exact h
  unfold interval_Floor.f
  rw [if_neg (by omega)]
  have hdec : decide (b < 0) = false := decide_eq_false (by omega)
  by_cases c : a.tmod b = 0
  · rw [if_pos c]
    have : b ∣ a := Int.dvd_of_tmod_eq_zero c
    rw [if_pos (Or.inr this)] at hd
    rw [hd, Int.add_zero, w64 h3 h4]
  · rw [if_neg c, hdec]
    have hnd : ¬ b ∣ a := fun h => c (Int.tmod_eq_zero_of_dvd h)
    by_cases c2 : a < 0
    · rw [if_pos (by simp [c2])]
      rw [if_neg (by rintro (h | h) <;> first | omega | exact hnd h), hs] at hd
      rw [hd, w64 (x := a / b + 1) (by omega) ?_, w64 (by omega) (by omega)]
      · congr 1; omega
      · rcases ilt_or 0 (a / b + 1) with h | h
        · have : b * 0 ≤ b * (a / b) := Int.mul_le_mul_of_nonneg_left (by omega) (by omega)
          omega
        · omega
    · rw [if_neg (by simp [c2])]
      rw [if_pos (Or.inl (by omega))] at hd
      rw [hd, Int.add_zero, w64 h3 h4]
theorem q_aux {c s C4 S4 : Rat} (h1 : -(1 / 10000000000000000000000) ≤ C4) (h2 : C4 ≤ 1 / 10000000000000000000000) (h3 : 1 - 1 / 10000000000000000000000000000000000000000 ≤ S4) (h4 : S4 ≤ 1)
    (c1 : -1 ≤ c) (c2 : c ≤ 1) (s1 : -1 ≤ s) (s2 : s ≤ 1) : -(1 / 1000000000000000000000) ≤ s * C4 + c * S4 - c ∧ s * C4 + c * S4 - c ≤ 1 / 1000000000000000000000 := by
  obtain ⟨a1, a2⟩ := abs_mul s1 s2 h1 h2
  obtain ⟨b1, b2⟩ := abs_mul (a := c) (b := 1 - S4) (A := 1) (B := 1 / 10000000000000000000000000000000000000000) c1 c2 (by grind) (by grind)
  constructor <;> grind
/-- A quarter more. -/
theorem quarter (m : Nat) : -(1 / 1000000000000000000000) ≤ sinT (m + n4) - cosT m ∧ sinT (m + n4) - cosT m ≤ 1 / 1000000000000000000000 ∧ -(1 / 1000000000000000000000) ≤ cosT (m + n4) + sinT m ∧ cosT (m + n4) + sinT m ≤ 1 / 1000000000000000000000 := by
  obtain ⟨h1, h2, h3, h4⟩ := T4
  obtain ⟨c1, c2, s1, s2⟩ := T_bound m
  rw [sinT_add, cosT_add]
  generalize cosT n4 = C4 at *
  generalize sinT n4 = S4 at *
  generalize cosT m = c at *
  generalize sinT m = s at *
  obtain ⟨a1, a2⟩ := q_aux h1 h2 h3 h4 c1 c2 s1 s2
  obtain ⟨b1, b2⟩ := q_aux (c := -s) (s := c) h1 h2 h3 h4 (by grind) (by grind) (by grind) (by grind)
  refine ⟨?_, ?_, ?_, ?_⟩ <;> grind
end Go.Proofs.Ytelcegpaakbppaa.SinT
