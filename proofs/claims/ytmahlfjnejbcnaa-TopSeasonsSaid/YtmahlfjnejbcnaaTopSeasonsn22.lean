/- octant: its sine and cosine differ from those of the rotation by less than 84 units of 2 to the power of -60. -/
import Derived.Test.YtmahlfjnejbcnaaTopSeasonsn21
namespace Go.Proofs.Ytmahlfjnejbcnaa.Oct
open Go.RowKit YtmahlfjnejbcnaaW.PrintWords YtmahlfjnejbcnaaW.PrintLast Opn PAll Base Turn Fix
set_option linter.unusedVariables false
set_option linter.unusedSimpArgs false
def oX (a : Int) : Int := a * 7244019458 + a * 77122842 / 1000000000
def oS (x sq : Int) : Nat → Int
 | 0 => x
 | k + 1 => fm (oS x sq k) sq / ((2 * ((k : Int) + 1)) * (2 * ((k : Int) + 1) + 1))
def oC (sq : Int) : Nat → Int
 | 0 => 1152921504606846976
 | k + 1 => fm (oC sq k) sq / ((2 * ((k : Int) + 1) - 1) * 2 * ((k : Int) + 1))
def oSin (x sq : Int) : Nat → Int
 | 0 => x
 | k + 1 => if (k + 1) % 2 = 1 then oSin x sq k - oS x sq (k + 1) else oSin x sq k + oS x sq (k + 1)
def oCos (sq : Int) : Nat → Int
 | 0 => 1152921504606846976
 | k + 1 => if (k + 1) % 2 = 1 then oCos sq k - oC sq (k + 1) else oCos sq k + oC sq (k + 1)
theorem den_pos (k : Nat) : 2 ≤ (2 * ((k : Int) + 1)) * (2 * ((k : Int) + 1) + 1) ∧ 2 ≤ (2 * ((k : Int) + 1) - 1) * 2 * ((k : Int) + 1) := by
 constructor
 ·have := Int.mul_le_mul (show (2 : Int) ≤ 2 * ((k : Int) + 1) by omega) (show (1 : Int) ≤ 2 * ((k : Int) + 1) + 1 by omega) (by omega) (by omega)
  omega
 ·have := Int.mul_le_mul (show (2 : Int) ≤ (2 * ((k : Int) + 1) - 1) * 2 by omega) (show (1 : Int) ≤ (k : Int) + 1 by omega) (by omega) (by omega)
  omega
theorem ediv_half {m d : Int} (hm : 0 ≤ m) (hd : 2 ≤ d) : 0 ≤ m / d ∧ 2 * (m / d) ≤ m := by
 have h1 := Int.ediv_nonneg hm (show 0 ≤ d by omega)
 have h2 : d * (m / d) ≤ m := Int.mul_ediv_self_le (by omega)
 have h3 : 2 * (m / d) ≤ d * (m / d) := Int.mul_le_mul_of_nonneg_right hd h1
 omega
theorem oS_bound {x sq : Int} (hx : 0 ≤ x) (hq : 0 ≤ sq) (hq2 : sq ≤ 1152921504606846976) : ∀ k, 0 ≤ oS x sq k ∧ oS x sq k ≤ x ∧ 2 * oS x sq (k + 1) ≤ oS x sq k ∧ 0 ≤ oS x sq (k + 1)
 | 0 => by
  have h3 := (fm_tells hx hq).1
  have h4 := fm_le hx hq hq2
  obtain ⟨h5, h6⟩ := ediv_half h3 (den_pos 0).1
  exact ⟨hx, Int.le_refl _, Int.le_trans h6 h4, h5⟩
 | k + 1 => by
  obtain ⟨_, h2, h7, h1⟩ := oS_bound hx hq hq2 k
  have h3 := (fm_tells h1 hq).1
  have h4 := fm_le h1 hq hq2
  obtain ⟨h5, h6⟩ := ediv_half h3 (den_pos (k + 1)).1
  exact ⟨h1, by omega, Int.le_trans h6 h4, h5⟩
theorem oC_bound {sq : Int} (hq : 0 ≤ sq) (hq2 : sq ≤ 1152921504606846976) : ∀ k, 0 ≤ oC sq k ∧ oC sq k ≤ 1152921504606846976 ∧ 2 * oC sq (k + 1) ≤ oC sq k ∧ 0 ≤ oC sq (k + 1)
 | 0 => by
  have h3 := (fm_tells (show (0 : Int) ≤ 1152921504606846976 by omega) hq).1
  have h4 := fm_le (show (0 : Int) ≤ 1152921504606846976 by omega) hq hq2
  obtain ⟨h5, h6⟩ := ediv_half h3 (den_pos 0).2
  exact ⟨by unfold oC; omega, Int.le_refl _, Int.le_trans h6 h4, h5⟩
 | k + 1 => by
  obtain ⟨_, h2, h7, h1⟩ := oC_bound hq hq2 k
  have h3 := (fm_tells h1 hq).1
  have h4 := fm_le h1 hq hq2
  obtain ⟨h5, h6⟩ := ediv_half h3 (den_pos (k + 1)).2
  exact ⟨h1, by omega, Int.le_trans h6 h4, h5⟩
theorem oSin_bound {x sq : Int} (hx : 0 ≤ x) (hx2 : x ≤ 1152921504606846976) (hq : 0 ≤ sq) (hq2 : sq ≤ 1152921504606846976) : ∀ k : Nat, oS x sq k - 2305843009213693952 ≤ oSin x sq k ∧ oSin x sq k ≤ 2305843009213693952 - oS x sq k
 | 0 => by unfold oSin oS; omega
 | k + 1 => by
  obtain ⟨h1, h2⟩ := oSin_bound hx hx2 hq hq2 k
  obtain ⟨_, _, h3, h4⟩ := oS_bound hx hq hq2 k
  unfold oSin
  split <;> omega
theorem oCos_bound {sq : Int} (hq : 0 ≤ sq) (hq2 : sq ≤ 1152921504606846976) : ∀ k : Nat, oC sq k - 2305843009213693952 ≤ oCos sq k ∧ oCos sq k ≤ 2305843009213693952 - oC sq k
 | 0 => by unfold oCos oC; omega
 | k + 1 => by
  obtain ⟨h1, h2⟩ := oCos_bound hq hq2 k
  obtain ⟨_, _, h3, h4⟩ := oC_bound hq hq2 k
  unfold oCos
  split <;> omega
theorem den_wraps (K : Int) (h1 : 1 ≤ K) (h2 : K ≤ 9) : wrap64 ((wrap64 ((wrap64 ((wrap64 (2 * K)) - 1)) * 2)) * K) = (2 * K - 1) * 2 * K ∧ wrap64 ((wrap64 (2 * K)) * (wrap64 ((wrap64 (2 * K)) + 1))) = (2 * K) * (2 * K + 1) := by
 obtain rfl | rfl | rfl | rfl | rfl | rfl | rfl | rfl | rfl : K = 1 ∨ K = 2 ∨ K = 3 ∨ K = 4 ∨ K = 5 ∨ K = 6 ∨ K = 7 ∨ K = 8 ∨ K = 9 := by omega
 all_goals (unfold wrap64; omega)
theorem oct_step {x sq : Int} (hx : 0 ≤ x) (hx2 : x ≤ 1152921504606846976) (hq : 0 ≤ sq) (hq2 : sq ≤ 1152921504606846976) (k : Nat) (hk : k < 9) (f : Nat) :
  trig_octant.l0 (f + 1) sq (oSin x sq k) (oCos sq k) (oS x sq k) (oC sq k) ((k : Int) + 1) = trig_octant.l0 f sq (oSin x sq (k + 1)) (oCos sq (k + 1)) (oS x sq (k + 1)) (oC sq (k + 1)) ((k : Int) + 1 + 1) := by
 obtain ⟨s1, s2, s3, s4⟩ := oS_bound hx hq hq2 k
 obtain ⟨c1, c2, c3, c4⟩ := oC_bound hq hq2 k
 obtain ⟨b1, b2⟩ := oSin_bound hx hx2 hq hq2 k
 obtain ⟨b3, b4⟩ := oCos_bound hq hq2 k
 obtain ⟨d1, d2⟩ := den_wraps ((k : Int) + 1) (by omega) (by omega)
 obtain ⟨p1, p2⟩ := den_pos k
 have f1 := (fm_tells c1 hq).1
 have f2 := (fm_tells s1 hq).1
 have eS : Int.tdiv (fm (oS x sq k) sq) ((2 * ((k : Int) + 1)) * (2 * ((k : Int) + 1) + 1)) = oS x sq (k + 1) := Int.tdiv_eq_ediv_of_nonneg f2
 have eC : Int.tdiv (fm (oC sq k) sq) ((2 * ((k : Int) + 1) - 1) * 2 * ((k : Int) + 1)) = oC sq (k + 1) := Int.tdiv_eq_ediv_of_nonneg f1
 have hm : Int.tmod ((k : Int) + 1) 2 = ((k : Int) + 1) % 2 := Int.tmod_eq_emod_of_nonneg (by omega)
 rw [trig_octant.l0, if_pos (by omega), trig_mul_ok c1 (by omega) hq (by omega), Option.bind_some, d1, d2, if_neg (by omega), trig_mul_ok s1 (by omega) hq (by omega), Option.bind_some, if_neg (by omega), eS, eC,
  w64 (x := oS x sq (k + 1)) (by omega) (by omega), w64 (x := oC sq (k + 1)) (by omega) (by omega), w64 (x := (k : Int) + 1 + 1) (by omega) (by omega), hm]
 have u1 : oSin x sq (k + 1) = if (k + 1) % 2 = 1 then oSin x sq k - oS x sq (k + 1) else oSin x sq k + oS x sq (k + 1) := rfl
 have u2 : oCos sq (k + 1) = if (k + 1) % 2 = 1 then oCos sq k - oC sq (k + 1) else oCos sq k + oC sq (k + 1) := rfl
 by_cases c : (k + 1) % 2 = 1
 ·rw [if_pos (by omega), u1, u2, if_pos c, if_pos c, w64 (x := oSin x sq k - oS x sq (k + 1)) (by omega) (by omega), w64 (x := oCos sq k - oC sq (k + 1)) (by omega) (by omega)]
 ·rw [if_neg (by omega), u1, u2, if_neg c, if_neg c, w64 (x := oSin x sq k + oS x sq (k + 1)) (by omega) (by omega), w64 (x := oCos sq k + oC sq (k + 1)) (by omega) (by omega)]
theorem oct_run {x sq : Int} (hx : 0 ≤ x) (hx2 : x ≤ 1152921504606846976) (hq : 0 ≤ sq) (hq2 : sq ≤ 1152921504606846976) : ∀ (j k : Nat), k + j = 9 → ∀ f, trig_octant.l0 (f + j + 1) sq (oSin x sq k) (oCos sq k) (oS x sq k) (oC sq k) ((k : Int) + 1) = some (mx 0 (oSin x sq 9), mn 1152921504606846976 (oCos sq 9))
 | 0, k, h, f => by
  obtain rfl : k = 9 := by omega
  rw [trig_octant.l0, if_neg (by omega)]
 | j + 1, k, h, f => by
  rw [show f + (j + 1) + 1 = (f + j + 1) + 1 by omega, oct_step hx hx2 hq hq2 k (by omega)]
  have := oct_run hx hx2 hq hq2 j (k + 1) (by omega) f
  rwa [show (((k + 1 : Nat) : Int) + 1) = (k : Int) + 1 + 1 by push_cast; rfl] at this
theorem oX_bound {a : Int} (h0 : 0 ≤ a) (h1 : a ≤ 125000000) : 0 ≤ oX a ∧ oX a ≤ 1152921504606846976 := by unfold oX; omega
theorem octant_at {a : Int} (h0 : 0 ≤ a) (h1 : a ≤ 125000000) (f : Nat) : trig_octant.f (f + 10) a = some (mx 0 (oSin (oX a) (fm (oX a) (oX a)) 9), mn 1152921504606846976 (oCos (fm (oX a) (oX a)) 9)) := by
 obtain ⟨x0, x1⟩ := oX_bound h0 h1
 have e : wrap64 ((wrap64 (a * 7244019458)) + (wrap64 (Int.tdiv (wrap64 (a * 77122842)) 1000000000))) = oX a := by
  rw [w64 (x := a * 77122842) (by omega) (by omega), Int.tdiv_eq_ediv_of_nonneg (show 0 ≤ a * 77122842 by omega), w64 (x := a * 7244019458) (by omega) (by omega), w64 (x := a * 77122842 / 1000000000) (by omega) (by omega)]
  exact w64 (by unfold oX at x0; omega) (by unfold oX at x1; omega)
 unfold trig_octant.f
 rw [e, trig_mul_ok x0 (by omega) x0 (by omega), Option.bind_some]
 have hq := (fm_tells x0 x0).1
 have hq2 := fm_le x0 x0 x1
 exact oct_run x0 x1 hq (by omega) 9 0 rfl f
end Go.Proofs.Ytmahlfjnejbcnaa.Oct
