/- What an interval of numbers of the unit 10 ^ -9 tells of the reference's sine and cosine. -/
import Derived.Test.YtcifakgcbgodiaaPhaseLitsn2
import Derived.Test.YtcifakgcbgodiaaPhaseLitsn19
import Derived.Test.YtcifakgcbgodiaaPhaseLitsn28
import Derived.Test.YtcifakgcbgodiaaPhaseLitsn29
namespace Go.Proofs.Ytcifakgcbgodiaa.Units
open Go.RowKit Go.Proofs.YtcifakgcbgodiaaW.PrintWords Go.Proofs.YtcifakgcbgodiaaW.PrintLast Go.Proofs.Ytcifakgcbgodiaa.PAll Go.Proofs.Ytcifakgcbgodiaa.Base Go.Proofs.Ytcifakgcbgodiaa.Turn Go.Proofs.Ytcifakgcbgodiaa.Fix Go.Proofs.Ytcifakgcbgodiaa.Oct Go.Proofs.Ytcifakgcbgodiaa.OctT Go.Proofs.Ytcifakgcbgodiaa.SinT Go.Proofs.Ytcifakgcbgodiaa.RefT Go.Proofs.Ytcifakgcbgodiaa.Circ Go.Proofs.Ytcifakgcbgodiaa.Over Go.Proofs.Ytcifakgcbgodiaa.Norm
set_option linter.unusedVariables false
set_option linter.unusedSimpArgs false
/-- .. with their lengths. -/
theorem sincos_ev2 {a : Int} (ha : -9223372036854775808 ≤ a) : ∃ s c : Int, Ev (fun k => ephemerisref2_SinCos.f k a) (s, c) ∧ (-1600000 ≤ (s : Rat) - u * S a ∧ (s : Rat) - u * S a ≤ 1600000) ∧ (-1600000 ≤ (c : Rat) - u * C a ∧ (c : Rat) - u * C a ≤ 1600000) ∧
    (-1152921504606849376 ≤ s ∧ s ≤ 1152921504606849376) ∧ (-1152921504606849376 ≤ c ∧ c ≤ 1152921504606849376) := by
  obtain ⟨s, c, rf, e1, e2, e3, e4⟩ := sincos_all ha
  exact ⟨s, c, ev_some 13 rf, e1, e2, e3, e4⟩
theorem part_one {s : Int} (h1 : -1152921504608446976 ≤ s) (h2 : s ≤ 1152921504608446976) : ∃ p : Int, ephemerisref2_Part.f 1000000000 s = some p ∧ p * 1099511627776 < 1000000000 * s + 1099511627776 ∧ 1000000000 * s < p * 1099511627776 + 1099511627776 ∧ -1100000000000000 ≤ p ∧ p ≤ 1100000000000000 := by
  unfold ephemerisref2_Part.f
  by_cases c : s < 0
  · rw [if_pos c, w64 (x := -s) (by omega) (by omega), low30 (show 0 ≤ -s by omega) (by omega)]
    refine ⟨_, rfl, ?_⟩
    rw [w64 (x := 1000000000 * (-s / 1073741824)) (by omega) (by omega), w64 (x := 1000000000 * (-s % 1073741824)) (by omega) (by omega), w64 (x := 1000000000 * (-s / 1073741824) + 1000000000 * (-s % 1073741824) / 1073741824) (by omega) (by omega), w64 (by omega) (by omega)]
    refine ⟨?_, ?_, ?_, ?_⟩ <;> omega
  · rw [if_neg c, low30 (show 0 ≤ s by omega) (by omega)]
    refine ⟨_, rfl, ?_⟩
    rw [w64 (x := 1000000000 * (s / 1073741824)) (by omega) (by omega), w64 (x := 1000000000 * (s % 1073741824)) (by omega) (by omega), w64 (x := 1000000000 * (s / 1073741824) + 1000000000 * (s % 1073741824) / 1073741824) (by omega) (by omega), w64 (by omega) (by omega)]
    refine ⟨?_, ?_, ?_, ?_⟩ <;> omega
theorem lo_whole {L s : Int} {w : Rat} (hL : (L : Rat) ≤ 1000000000 * w + 5 / 1000) (e1 : -1600000 ≤ (s : Rat) - u * w) : L * 1152921504606846976 ≤ 1000000000 * (s + 1600000) + 5764607523034235 := by
  refine int_of_rat ?_
  push_cast
  rw [u_eq] at e1
  grind
theorem hi_whole {H s : Int} {w : Rat} (hH : 1000000000 * w ≤ (H : Rat) + 5 / 1000) (e2 : (s : Rat) - u * w ≤ 1600000) : 1000000000 * (s - 1600000) ≤ H * 1152921504606846976 + 5764607523034235 := by
  refine int_of_rat ?_
  push_cast
  rw [u_eq] at e2
  grind
/-- The unit's comparison. -/
theorem unit_in {L H s : Int} {w : Rat} (l1 : -1100000000000 ≤ L) (l2 : L ≤ 1100000000000) (h1 : -1100000000000 ≤ H) (h2 : H ≤ 1100000000000) (hL : (L : Rat) ≤ 1000000000 * w + 5 / 1000) (hH : 1000000000 * w ≤ (H : Rat) + 5 / 1000)
    (e1 : -1600000 ≤ (s : Rat) - u * w) (e2 : (s : Rat) - u * w ≤ 1600000) (s1 : -1152921504608446976 ≤ s) (s2 : s ≤ 1152921504608446976) : ephemerisref2_ContainsUnit.f L H s = some true := by
  have b1 := lo_whole hL e1
  have b2 := hi_whole hH e2
  obtain ⟨p, hp, p1, p2, p3, p4⟩ := part_one s1 s2
  clear hL hH e1 e2
  unfold ephemerisref2_ContainsUnit.f
  rw [hp, Option.bind_some, w64 (x := L * 1048576) (by omega) (by omega), w64 (x := p + 8192) (by omega) (by omega), if_pos (by omega), w64 (x := H * 1048576) (by omega) (by omega), w64 (by omega) (by omega)]
  exact congrArg some (decide_eq_true (by omega))
/-- A number from 0 to less than n. -/
theorem at_ok {k n : Int} (h0 : 0 < n) (h1 : n ≤ 4000000000000000000) : ∃ j, ephemerislaw2_at.f k n = some j ∧ 0 ≤ j ∧ j < n := by
  unfold ephemerislaw2_at.f
  rw [if_neg (by omega)]
  have a1 := Int.tmod_lt_of_pos k h0
  have a2 : -n < Int.tmod k n := by
    have := Int.lt_tmod_of_pos k h0
    omega
  rw [w64 (by omega) (by omega)]
  refine ⟨_, rfl, ?_, ?_⟩
  · exact Int.tmod_nonneg _ (by omega)
  · exact Int.tmod_lt_of_pos _ h0
theorem cosover_lo_hi {L H lo hi : Int} (h : HoldsC L H lo hi) (h1 : lo ≤ hi) : L ≤ 1000000000 ∧ -1000000000 ≤ H := by
  obtain ⟨a, b⟩ := h.tell (lo * 1000000) (by omega) (by omega)
  obtain ⟨_, _, _, _⟩ := SC_bound (lo * 1000000)
  generalize C (lo * 1000000) = x at *
  constructor
  · rcases Int.lt_or_le 1000000000 L with c | c
    · have := cle (show (1000000001 : Int) ≤ L by omega)
      have e : ((1000000001 : Int) : Rat) = 1000000001 := rfl
      rw [e] at this; grind
    · exact c
  · rcases Int.lt_or_le H (-1000000000) with c | c
    · have := cle (show H ≤ (-1000000001 : Int) by omega)
      have e : ((-1000000001 : Int) : Rat) = -1000000001 := rfl
      rw [e] at this; grind
    · exact c
end Go.Proofs.Ytcifakgcbgodiaa.Units
