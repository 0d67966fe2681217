/- root: whole roots by halving. -/
import Derived.Test.YtmahlfjnejbcnaaTopSeasonsn15
import Derived.Test.YtmahlfjnejbcnaaTopSeasonsn19
namespace Go.Proofs.Ytmahlfjnejbcnaa.RootT
open Go.RowKit YtmahlfjnejbcnaaW.PrintWords YtmahlfjnejbcnaaW.PrintLast YtmahlfjnejbcnaaW.PrintMore Opn PAll Base
set_option linter.unusedVariables false
set_option linter.unusedSimpArgs false
theorem sq_lt {x y : Int} (hy : 0 ≤ y) (h : x * x < y * y) (hx : 0 ≤ x) : x < y := by
 rcases (show x < y ∨ y ≤ x by omega) with h1 | h1
 ·exact h1
 ·have := Int.mul_le_mul h1 h1 hy hx
  omega
theorem root_loop {a : Int} (ha : 0 ≤ a) (ha2 : a ≤ 1000000000000000000) : ∀ (n : Nat) (lo hi : Int), 0 ≤ lo → lo ≤ hi → hi ≤ 2147483648 → hi - lo < 2 ^ n → lo * lo ≤ a → a < (hi + 1) * (hi + 1) →
  ∃ r, (∀ f, trig_root.l0 (f + n + 1) a lo hi = some r) ∧ 0 ≤ r ∧ r * r ≤ a ∧ a < (r + 1) * (r + 1) := by
 intro n
 induction n with
 | zero =>
  intro lo hi h0 h1 h2 h3 h4 h5
  have e : lo = hi := by
   have : hi - lo < 1 := h3
   omega
  subst e
  exact ⟨lo, fun f => by rw [trig_root.l0, if_neg (by omega)], h0, h4, h5⟩
 | succ n ih =>
  intro lo hi h0 h1 h2 h3 h4 h5
  by_cases c : lo < hi
  ·have hm : wrap64 (Int.tdiv (wrap64 ((wrap64 (lo + hi)) + 1)) 2) = (lo + hi + 1) / 2 := by
    rw [w64 (x := lo + hi) (by omega) (by omega), w64 (x := lo + hi + 1) (by omega) (by omega), Int.tdiv_eq_ediv_of_nonneg (by omega), w64 (by omega) (by omega)]
   have p2 : (2 : Int) ^ (n + 1) = 2 * 2 ^ n := by rw [Int.pow_succ, Int.mul_comm]
   rw [p2] at h3
   generalize (2 : Int) ^ n = P at *
   have m1 : lo + 1 ≤ (lo + hi + 1) / 2 := by omega
   have m2 : (lo + hi + 1) / 2 ≤ hi := by omega
   have m3 : hi - (lo + hi + 1) / 2 < P := by omega
   have m4 : (lo + hi + 1) / 2 - 1 - lo < P := by omega
   generalize hmid : (lo + hi + 1) / 2 = m at *
   have hd : wrap64 (Int.tdiv a m) = a / m := by
    have d0 : 0 ≤ a / m := Int.ediv_nonneg ha (by omega)
    have d1 : a / m ≤ a := Int.ediv_le_self m ha
    rw [Int.tdiv_eq_ediv_of_nonneg ha, w64 (by omega) (by omega)]
   by_cases c2 : m * m ≤ a
   ·obtain ⟨r, hr, r0⟩ := ih m hi (by omega) m2 h2 m3 c2 h5
    refine ⟨r, fun f => ?_, r0⟩
    rw [show f + (n + 1) + 1 = (f + n + 1) + 1 by omega, trig_root.l0, if_pos c, hm, hd, if_neg (by omega), if_pos ((Int.le_ediv_iff_mul_le (by omega)).2 c2)]
    exact hr f
   ·obtain ⟨r, hr, r0⟩ := ih lo (m - 1) h0 (by omega) (by omega) m4 h4 (by rw [show m - 1 + 1 = m by omega]; omega)
    refine ⟨r, fun f => ?_, r0⟩
    rw [show f + (n + 1) + 1 = (f + n + 1) + 1 by omega, trig_root.l0, if_pos c, hm, hd, if_neg (by omega), if_neg (fun h => c2 ((Int.le_ediv_iff_mul_le (by omega)).1 h)), w64 (x := m - 1) (by omega) (by omega)]
    exact hr f
  ·have e : lo = hi := by omega
   subst e
   exact ⟨lo, fun f => by rw [trig_root.l0, if_neg c], h0, h4, h5⟩
theorem root_tells {a : Int} (ha : 0 ≤ a) (ha2 : a ≤ 1000000000000000000) : ∃ r, (∀ f, trig_root.f (f + 33) a = some r) ∧ 0 ≤ r ∧ r * r ≤ a ∧ a < (r + 1) * (r + 1) :=
 root_loop ha ha2 32 0 2147483648 (by omega) (by omega) (by omega) (by decide) (by omega) (by omega)
theorem root_ev {a : Int} (ha : 0 ≤ a) (ha2 : a ≤ 1000000000000000000) : ∃ r, Ev (fun k => trig_root.f k a) r ∧ 0 ≤ r ∧ r * r ≤ a ∧ a < (r + 1) * (r + 1) := by
 obtain ⟨r, e, h⟩ := root_tells ha ha2
 exact ⟨r, ev_some 33 e, h⟩
end Go.Proofs.Ytmahlfjnejbcnaa.RootT
