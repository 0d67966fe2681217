/- Numbers in the unit of 2 to the power of -60: products, and the sums of octant; how far they are from the rotations. -/
import Derived.Test.YtmahlfjnejbcnaaTopSeasonsn15
import Derived.Test.YtmahlfjnejbcnaaTopSeasonsn19
import Derived.Test.YtmahlfjnejbcnaaTopSeasonsn20
namespace Go.Proofs.Ytmahlfjnejbcnaa.Fix
open Go.RowKit YtmahlfjnejbcnaaW.PrintWords YtmahlfjnejbcnaaW.PrintLast Opn PAll Base Turn
set_option linter.unusedVariables false
set_option linter.unusedSimpArgs false
theorem ilt_or (a b : Int) : a < b ∨ b ≤ a := by omega
theorem wrap_i64_nn (n : Int) (h0 : 0 ≤ n) (h1 : n < 2 ^ 63) : IntKind.i64.wrap n = n := by
 have e : IntKind.i64.wrap n = wrap64 n := by unfold wrap64; exact IntKind.wrap_i64 n
 rw [e]
 exact w64 (by omega) (by omega)
theorem low30 {x : Int} (h0 : 0 ≤ x) (h1 : x ≤ 9223372036854775807) : Go.bits .and .i64 x 1073741823 = x % 1073741824 := by
 have := bits_mask .i64 63 (by decide) wrap_i64_nn 30 (by decide) x h0 (by omega)
 simpa using this
def fm (a b : Int) : Int := (a / 1073741824) * (b / 1073741824) + ((a / 1073741824) * (b % 1073741824) + (a % 1073741824) * (b / 1073741824) + (a % 1073741824) * (b % 1073741824) / 1073741824) / 1073741824
theorem fm_tells {a b : Int} (ha : 0 ≤ a) (hb : 0 ≤ b) : 0 ≤ fm a b ∧ fm a b * 1152921504606846976 ≤ a * b ∧ a * b < (fm a b + 2) * 1152921504606846976 := by
 have e : a * b = 1152921504606846976 * ((a / 1073741824) * (b / 1073741824)) + 1073741824 * ((a / 1073741824) * (b % 1073741824)) + 1073741824 * ((a % 1073741824) * (b / 1073741824)) + (a % 1073741824) * (b % 1073741824) := by
  have h1 : a = 1073741824 * (a / 1073741824) + a % 1073741824 := (Int.mul_ediv_add_emod a 1073741824).symm
  have h2 : b = 1073741824 * (b / 1073741824) + b % 1073741824 := (Int.mul_ediv_add_emod b 1073741824).symm
  generalize a / 1073741824 = A at *
  generalize a % 1073741824 = x at *
  generalize b / 1073741824 = B at *
  generalize b % 1073741824 = y at *
  rw [h1, h2]
  grind
 have n1 : 0 ≤ (a / 1073741824) * (b / 1073741824) := Int.mul_nonneg (by omega) (by omega)
 have n2 : 0 ≤ (a / 1073741824) * (b % 1073741824) := Int.mul_nonneg (by omega) (by omega)
 have n3 : 0 ≤ (a % 1073741824) * (b / 1073741824) := Int.mul_nonneg (by omega) (by omega)
 have n4 : 0 ≤ (a % 1073741824) * (b % 1073741824) := Int.mul_nonneg (by omega) (by omega)
 unfold fm
 rw [e]
 generalize (a / 1073741824) * (b / 1073741824) = x1 at *
 generalize (a / 1073741824) * (b % 1073741824) = x2 at *
 generalize (a % 1073741824) * (b / 1073741824) = x3 at *
 generalize (a % 1073741824) * (b % 1073741824) = x4 at *
 omega
theorem fm_wraps {a b : Int} (ha : 0 ≤ a) (ha2 : a ≤ 2305843009213693952) (hb : 0 ≤ b) (hb2 : b ≤ 2305843009213693952) :
  wrap64 ((wrap64 ((a / 1073741824) * (b / 1073741824))) + ((wrap64 ((wrap64 ((wrap64 ((a / 1073741824) * (Go.bits .and .i64 b 1073741823))) + (wrap64 ((Go.bits .and .i64 a 1073741823) * (b / 1073741824))))) + ((wrap64 ((Go.bits .and .i64 a 1073741823) * (Go.bits .and .i64 b 1073741823))) / 1073741824))) / 1073741824)) = fm a b := by
 rw [low30 ha (by omega), low30 hb (by omega)]
 have m1 : (a / 1073741824) * (b / 1073741824) ≤ 2147483648 * 2147483648 := Int.mul_le_mul (by omega) (by omega) (by omega) (by omega)
 have m2 : (a / 1073741824) * (b % 1073741824) ≤ 2147483648 * 1073741824 := Int.mul_le_mul (by omega) (by omega) (by omega) (by omega)
 have m3 : (a % 1073741824) * (b / 1073741824) ≤ 1073741824 * 2147483648 := Int.mul_le_mul (by omega) (by omega) (by omega) (by omega)
 have m4 : (a % 1073741824) * (b % 1073741824) ≤ 1073741824 * 1073741824 := Int.mul_le_mul (by omega) (by omega) (by omega) (by omega)
 have n1 : 0 ≤ (a / 1073741824) * (b / 1073741824) := Int.mul_nonneg (by omega) (by omega)
 have n2 : 0 ≤ (a / 1073741824) * (b % 1073741824) := Int.mul_nonneg (by omega) (by omega)
 have n3 : 0 ≤ (a % 1073741824) * (b / 1073741824) := Int.mul_nonneg (by omega) (by omega)
 have n4 : 0 ≤ (a % 1073741824) * (b % 1073741824) := Int.mul_nonneg (by omega) (by omega)
 unfold fm
 generalize (a / 1073741824) * (b / 1073741824) = x1 at *
 generalize (a / 1073741824) * (b % 1073741824) = x2 at *
 generalize (a % 1073741824) * (b / 1073741824) = x3 at *
 generalize (a % 1073741824) * (b % 1073741824) = x4 at *
 rw [w64 (x := x1) (by omega) (by omega), w64 (x := x2) (by omega) (by omega), w64 (x := x3) (by omega) (by omega), w64 (x := x4) (by omega) (by omega), w64 (x := x2 + x3) (by omega) (by omega), w64 (x := x2 + x3 + x4 / 1073741824) (by omega) (by omega), w64 (by omega) (by omega)]
theorem trig_mul_ok {a b : Int} (ha : 0 ≤ a) (ha2 : a ≤ 2305843009213693952) (hb : 0 ≤ b) (hb2 : b ≤ 2305843009213693952) : trig_mul.f a b = some (fm a b) := by
 unfold trig_mul.f
 rw [fm_wraps ha ha2 hb hb2]
theorem fm_le {a b : Int} (ha : 0 ≤ a) (hb : 0 ≤ b) (hb2 : b ≤ 1152921504606846976) : fm a b ≤ a := by
 obtain ⟨h0, h1, h2⟩ := fm_tells ha hb
 have : a * b ≤ a * 1152921504606846976 := Int.mul_le_mul_of_nonneg_left hb2 ha
 omega
def rm (a b : Int) : Int := (if (a < 0) = (b < 0) then 1 else -1) * fm (if a < 0 then -a else a) (if b < 0 then -b else b)
theorem ref_mul_ok {a b : Int} (ha : -2305843009213693952 ≤ a) (ha2 : a ≤ 2305843009213693952) (hb : -2305843009213693952 ≤ b) (hb2 : b ≤ 2305843009213693952) : ephemerisref2_Mul.f a b = some (rm a b) := by
 have key : ∀ x y : Int, 0 ≤ x → x ≤ 2305843009213693952 → 0 ≤ y → y ≤ 2305843009213693952 → 0 ≤ fm x y ∧ fm x y ≤ 4611686018427387904 := by
  intro x y h1 h2 h3 h4
  obtain ⟨k0, k1, k2⟩ := fm_tells h1 h3
  have : x * y ≤ 2305843009213693952 * 2305843009213693952 := Int.mul_le_mul h2 h4 h3 (by omega)
  omega
 unfold ephemerisref2_Mul.f rm
 by_cases c1 : a < 0
 ·have w1 : wrap64 (-a) = -a := w64 (by omega) (by omega)
  rw [if_pos c1, w1]
  by_cases c2 : b < 0
  ·have w2 : wrap64 (-b) = -b := w64 (by omega) (by omega)
   rw [if_pos c2, w2, fm_wraps (by omega) (by omega) (by omega) (by omega)]
   have := key (-a) (-b) (by omega) (by omega) (by omega) (by omega)
   rw [w64 (by omega) (by omega)]
   simp [c1, c2]
  ·rw [if_neg c2, fm_wraps (by omega) (by omega) (by omega) (by omega)]
   have := key (-a) b (by omega) (by omega) (by omega) (by omega)
   rw [w64 (by omega) (by omega)]
   simp [c1, c2]
 ·rw [if_neg c1]
  by_cases c2 : b < 0
  ·have w2 : wrap64 (-b) = -b := w64 (by omega) (by omega)
   rw [if_pos c2, w2, fm_wraps (by omega) (by omega) (by omega) (by omega)]
   have := key a (-b) (by omega) (by omega) (by omega) (by omega)
   rw [w64 (by omega) (by omega)]
   simp [c1, c2]
  ·rw [if_neg c2, fm_wraps (by omega) (by omega) (by omega) (by omega)]
   have := key a b (by omega) (by omega) (by omega) (by omega)
   rw [w64 (by omega) (by omega)]
   simp [c1, c2]
theorem rm_tells (a b : Int) : (a * b - 2 * 1152921504606846976 < rm a b * 1152921504606846976 ∧ rm a b * 1152921504606846976 < a * b + 2 * 1152921504606846976) := by
 unfold rm
 by_cases c1 : a < 0 <;> by_cases c2 : b < 0
 ·obtain ⟨h0, h1, h2⟩ := fm_tells (a := -a) (b := -b) (by omega) (by omega)
  have e : -a * -b = a * b := by grind
  rw [e] at h1 h2
  simp only [c1, c2, if_true]
  omega
 ·obtain ⟨h0, h1, h2⟩ := fm_tells (a := -a) (b := b) (by omega) (by omega)
  have e : -a * b = -(a * b) := by grind
  rw [e] at h1 h2
  simp only [c1, c2, if_true, if_false, eq_iff_iff, iff_false, not_true_eq_false]
  omega
 ·obtain ⟨h0, h1, h2⟩ := fm_tells (a := a) (b := -b) (by omega) (by omega)
  have e : a * -b = -(a * b) := by grind
  rw [e] at h1 h2
  simp only [c1, c2, if_true, if_false, eq_iff_iff, false_iff, not_true_eq_false]
  omega
 ·obtain ⟨h0, h1, h2⟩ := fm_tells (a := a) (b := b) (by omega) (by omega)
  simp only [c1, c2, if_true, if_false]
  omega
end Go.Proofs.Ytmahlfjnejbcnaa.Fix
