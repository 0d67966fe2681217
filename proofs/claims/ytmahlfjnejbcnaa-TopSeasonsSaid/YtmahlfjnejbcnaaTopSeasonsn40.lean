/- Unit of the sun's package: it holds the products of what its intervals hold, and is narrow. -/
import Derived.Test.YtmahlfjnejbcnaaTopSeasonsn39
namespace Go.Proofs.Ytmahlfjnejbcnaa.UnitT
open Go.RowKit YtmahlfjnejbcnaaW.PrintWords YtmahlfjnejbcnaaW.PrintLast YtmahlfjnejbcnaaW.PrintMore PAll Base Turn Over Units Vals MulT OctT
set_option linter.unusedVariables false
set_option linter.unusedSimpArgs false
theorem clamp_id {a b : Int} (ha : inU a) (hb : inU b) : sun_Clamp.f a b = some (a, b) := by
 unfold inU at ha hb
 have e : ∀ x : Int, -1000000000 ≤ x → x ≤ 1000000000 → mx (-1000000000) (mn 1000000000 x) = x := by
  intro x h1 h2
  unfold mx mn
  split <;> split <;> omega
 unfold sun_Clamp.f
 rw [e a ha.1 ha.2, e b hb.1 hb.2]
theorem rmin {p y y0 y1 m : Rat} (h0 : y0 ≤ y) (h1 : y ≤ y1) (c0 : m ≤ p * y0) (c1 : m ≤ p * y1) : m ≤ p * y := by
 rcases (Rat.le_total : (0 : Rat) ≤ p ∨ p ≤ 0) with n | n
 ·exact Rat.le_trans c0 (Rat.mul_le_mul_of_nonneg_left h0 n)
 ·have k := Rat.mul_le_mul_of_nonneg_left h1 (show 0 ≤ -p by grind)
  grind
theorem rmax {p y y0 y1 m : Rat} (h0 : y0 ≤ y) (h1 : y ≤ y1) (c0 : p * y0 ≤ m) (c1 : p * y1 ≤ m) : p * y ≤ m := by
 rcases (Rat.le_total : (0 : Rat) ≤ p ∨ p ≤ 0) with n | n
 ·exact Rat.le_trans (Rat.mul_le_mul_of_nonneg_left h1 n) c1
 ·have k := Rat.mul_le_mul_of_nonneg_left h0 (show 0 ≤ -p by grind)
  grind
theorem rprod {a0 a1 b0 b1 m M : Int} (h1 : m ≤ a0 * b0 ∧ m ≤ a0 * b1 ∧ m ≤ a1 * b0 ∧ m ≤ a1 * b1) (h2 : a0 * b0 ≤ M ∧ a0 * b1 ≤ M ∧ a1 * b0 ≤ M ∧ a1 * b1 ≤ M) {p q : Rat} (p0 : (a0 : Rat) ≤ p) (p1 : p ≤ (a1 : Rat)) (q0 : (b0 : Rat) ≤ q) (q1 : q ≤ (b1 : Rat)) : (m : Rat) ≤ p * q ∧ p * q ≤ (M : Rat) := by
 obtain ⟨u1, u2, u3, u4⟩ := h1
 obtain ⟨v1, v2, v3, v4⟩ := h2
 have cs : ∀ x y z : Int, x ≤ y * z → (x : Rat) ≤ (z : Rat) * (y : Rat) := by
  intro x y z h
  have : ((x : Int) : Rat) ≤ ((y * z : Int) : Rat) := by exact_mod_cast h
  rw [Rat.intCast_mul] at this
  rwa [Rat.mul_comm]
 have ct : ∀ x y z : Int, y * z ≤ x → (z : Rat) * (y : Rat) ≤ (x : Rat) := by
  intro x y z h
  have : ((y * z : Int) : Rat) ≤ ((x : Int) : Rat) := by exact_mod_cast h
  rw [Rat.intCast_mul] at this
  rwa [Rat.mul_comm]
 have k0 := rmin p0 p1 (cs _ _ _ u1) (cs _ _ _ u3)
 have k1 := rmin p0 p1 (cs _ _ _ u2) (cs _ _ _ u4)
 have l0 := rmax p0 p1 (ct _ _ _ v1) (ct _ _ _ v3)
 have l1 := rmax p0 p1 (ct _ _ _ v2) (ct _ _ _ v4)
 rw [Rat.mul_comm] at k0 k1 l0 l1
 exact ⟨rmin q0 q1 k0 k1, rmax q0 q1 l0 l1⟩
theorem mul_abs {d b e : Int} (h1 : -e ≤ d) (h2 : d ≤ e) (hb : inU b) : d * b ≤ 1000000000 * e := by
 obtain ⟨b1, b2⟩ := hb
 have e0 : 0 ≤ e := by omega
 rcases Int.lt_or_le b 0 with n | n
 ·have k1 := Int.mul_le_mul_of_nonneg_right h1 (show 0 ≤ -b by omega)
  have k2 := Int.mul_le_mul_of_nonneg_left (show -b ≤ 1000000000 by omega) e0
  rw [Int.mul_neg, Int.mul_neg, Int.neg_mul] at k1
  rw [Int.mul_neg] at k2
  omega
 ·have k1 := Int.mul_le_mul_of_nonneg_right h2 n
  have k2 := Int.mul_le_mul_of_nonneg_left b2 e0
  omega
theorem pair_diff {a a' b b' e f : Int} (h1 : -e ≤ a - a') (h2 : a - a' ≤ e) (h3 : -f ≤ b - b') (h4 : b - b' ≤ f) (hb : inU b) (ha : inU a') : a * b - a' * b' ≤ 1000000000 * (e + f) := by
 have k1 := mul_abs h1 h2 hb
 have k2 := mul_abs h3 h4 ha
 rw [Int.sub_mul] at k1
 rw [Int.sub_mul, Int.mul_comm b, Int.mul_comm b'] at k2
 omega
theorem unit_ev {a0 a1 b0 b1 : Int} (h1 : inU a0) (h2 : inU a1) (h3 : inU b0) (h4 : inU b1) (ha : a0 ≤ a1) (hb : b0 ≤ b1) : ∃ L H : Int, Ev (fun k => sun_Unit.f k a0 a1 b0 b1) (L, H) ∧ inU L ∧ inU H ∧ L ≤ H ∧ H - L ≤ (a1 - a0) + (b1 - b0) + 2 ∧
  ∀ p q : Rat, (a0 : Rat) ≤ p → p ≤ (a1 : Rat) → (b0 : Rat) ≤ q → q ≤ (b1 : Rat) → 1000000000 * (L : Rat) ≤ p * q ∧ p * q ≤ 1000000000 * (H : Rat) := by
 obtain ⟨m, M, e, l, g, lm, gm⟩ := mul_ev h1 h2 h3 h4 ha hb
 have r := @rprod a0 a1 b0 b1 m M l g
 obtain ⟨i1, j1⟩ := prod_in h1 h3
 obtain ⟨i2, j2⟩ := prod_in h1 h4
 obtain ⟨i3, j3⟩ := prod_in h2 h3
 obtain ⟨i4, j4⟩ := prod_in h2 h4
 have w : M - m ≤ 1000000000 * ((a1 - a0) + (b1 - b0)) := by
  rcases gm with c | c | c | c <;> rcases lm with d | d | d | d <;> rw [c, d] <;> exact pair_diff (by omega) (by omega) (by omega) (by omega) (by assumption) (by assumption)
 have m0 : -1000000000000000000 ≤ m := by rcases lm with d | d | d | d <;> omega
 have M0 : M ≤ 1000000000000000000 := by rcases gm with d | d | d | d <;> omega
 have mM : m ≤ M := by omega
 clear lm gm l g i1 i2 i3 i4 j1 j2 j3 j4
 have sc := scale_ev (lo := m) (hi := M) (num := 1) (den := 1000000000) m0 mM M0 (by omega) (by omega) (by omega) (by omega) (by omega) (by omega) (by omega) (by omega)
 rw [if_neg (by omega), Int.mul_one, Int.mul_one] at sc
 refine ⟨m / 1000000000, -(-M / 1000000000), ?_, ?_, ?_, by omega, by omega, ?_⟩
 ·unfold sun_Unit.f
  refine obv_ (ev_some 0 fun k => clamp_id h1 h2) (obv_ (ev_some 0 fun k => clamp_id h3 h4) ?_)
  exact obv_ e (obv_ sc (ev_some 0 fun k => rfl))
 ·unfold inU; omega
 ·unfold inU; omega
 ·intro p q p0 p1 q0 q1
  obtain ⟨t0, t1⟩ := r p0 p1 q0 q1
  constructor
  ·refine Rat.le_trans ?_ t0
   have := cle (show 1000000000 * (m / 1000000000) ≤ m by omega)
   generalize m / 1000000000 = L at *
   push_cast at this
   exact this
  ·refine Rat.le_trans t1 ?_
   have := cle (show M ≤ 1000000000 * -(-M / 1000000000) by omega)
   generalize -(-M / 1000000000) = H at *
   push_cast at this
   exact this
end Go.Proofs.Ytmahlfjnejbcnaa.UnitT
