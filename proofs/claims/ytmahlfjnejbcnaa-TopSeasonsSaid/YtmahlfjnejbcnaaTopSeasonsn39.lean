/- Mul of intervals of numbers up to 10^9, and Unit of the sun. -/
import Derived.Test.YtmahlfjnejbcnaaTopSeasonsn32
namespace Go.Proofs.Ytmahlfjnejbcnaa.MulT
open Go.RowKit YtmahlfjnejbcnaaW.PrintWords YtmahlfjnejbcnaaW.PrintLast YtmahlfjnejbcnaaW.PrintMore PAll Base Turn Over Units Vals
set_option linter.unusedVariables false
set_option linter.unusedSimpArgs false
def inU (a : Int) : Prop := -1000000000 ≤ a ∧ a ≤ 1000000000
theorem prod_in {a b : Int} (ha : inU a) (hb : inU b) : -1000000000000000000 ≤ a * b ∧ a * b ≤ 1000000000000000000 := by
 obtain ⟨a1, a2⟩ := ha
 obtain ⟨b1, b2⟩ := hb
 rcases Int.lt_or_le b 0 with n | n
 ·have k1 := Int.mul_le_mul_of_nonneg_right a1 (show 0 ≤ -b by omega)
  have k2 := Int.mul_le_mul_of_nonneg_right a2 (show 0 ≤ -b by omega)
  rw [Int.mul_neg, Int.mul_neg] at k1 k2
  constructor <;> omega
 ·have k1 := Int.mul_le_mul_of_nonneg_right a1 n
  have k2 := Int.mul_le_mul_of_nonneg_right a2 n
  constructor <;> omega
theorem times_at (k : Nat) {a b : Int} (ha : inU a) (hb : inU b) : interval_times.f (k + 1) a b = some (a * b, true) := by
 obtain ⟨p1, p2⟩ := prod_in ha hb
 obtain ⟨a1, a2⟩ := ha
 obtain ⟨b1, b2⟩ := hb
 unfold interval_times.f
 by_cases c1 : a = 0
 ·rw [if_pos c1, interval_times.j0, if_pos rfl, c1, Int.zero_mul]
 rw [if_neg c1]
 by_cases c2 : b = 0
 ·rw [interval_times.j0, c2, Int.mul_zero]; rfl
 rw [interval_times.j0, if_neg (by simpa using c2), abs_at a (by omega) (by omega), Option.bind_some, abs_at b (by omega) (by omega), Option.bind_some]
 have hb' : 0 < (if b < 0 then -b else b) ∧ (if b < 0 then -b else b) ≤ 1000000000 := by split <;> omega
 have ha' : (if a < 0 then -a else a) ≤ 1000000000 := by split <;> omega
 generalize (if b < 0 then -b else b) = y at *
 generalize (if a < 0 then -a else a) = x at *
 have q : 1000000000 ≤ 1000000000000000000 / y := (Int.le_ediv_iff_mul_le hb'.1).2 (by omega)
 have q2 : 1000000000000000000 / y ≤ 1000000000000000000 := Int.ediv_le_self _ (by omega)
 rw [if_neg (by omega), w64 (x := 1000000000000000000 / y) (by omega) (by omega), if_neg (by omega), w64 (x := a * b) (by omega) (by omega)]
def nlo (i p lo : Int) : Int := if i = 0 ∨ p < lo then p else lo
def nhi (i p hi : Int) : Int := if i = 0 ∨ p > hi then p else hi
theorem mul_step (k : Nat) {i i' a b x2 x3 x4 x5 x6 x7 x8 x9 lo hi : Int} (h0 : 0 ≤ i) (h3 : i < 4) (ei : i + 1 = i') (ea : rd [x9, x7, x5, x3] i = a) (eb : rd [x8, x6, x4, x2] i = b) (ha : inU a) (hb : inU b) :
  interval_Mul.l0 (k + 2) i x2 x3 x4 x5 x6 x7 x8 x9 lo hi = interval_Mul.l0 k i' x2 x3 x4 x5 x6 x7 x8 x9 (nlo i (a * b) lo) (nhi i (a * b) hi) := by
 unfold nlo nhi
 rw [interval_Mul.l0, if_pos h3, if_pos h0, ea, eb, times_at k ha hb, Option.bind_some, if_pos rfl]
 dsimp only
 have e : wrap64 (i + 1) = i' := by rw [← ei]; exact w64 (by omega) (by omega)
 by_cases c : i = 0
 ·rw [if_pos c, interval_Mul.j1, if_pos rfl, if_pos c, e, if_pos (Or.inl c), if_pos (Or.inl c)]
 rw [if_neg c]
 by_cases c2 : a * b < lo
 ·rw [interval_Mul.j1, if_pos (decide_eq_true c2), if_neg c, e, if_pos (Or.inr c2)]
  by_cases c3 : a * b > hi
  ·rw [if_pos c3, if_pos (Or.inr c3)]
  ·rw [if_neg c3, if_neg (by simp [c, c3])]
 ·rw [interval_Mul.j1, if_neg (by simpa using c2), if_neg c, e, if_neg (show ¬ (i = 0 ∨ a * b < lo) by simp [c, c2])]
  by_cases c3 : a * b > hi
  ·rw [if_pos c3, if_pos (Or.inr c3)]
  ·rw [if_neg c3, if_neg (by simp [c, c3])]
theorem lo_step {i p lo : Int} : nlo i p lo ≤ p ∧ (i ≠ 0 → nlo i p lo ≤ lo) ∧ (nlo i p lo = p ∨ nlo i p lo = lo ∧ i ≠ 0) := by
 unfold nlo
 split <;> omega
theorem hi_step {i p hi : Int} : p ≤ nhi i p hi ∧ (i ≠ 0 → hi ≤ nhi i p hi) ∧ (nhi i p hi = p ∨ nhi i p hi = hi ∧ i ≠ 0) := by
 unfold nhi
 split <;> omega
theorem mul_ev {a0 a1 b0 b1 : Int} (h1 : inU a0) (h2 : inU a1) (h3 : inU b0) (h4 : inU b1) (ha : a0 ≤ a1) (hb : b0 ≤ b1) : ∃ m M : Int, Ev (fun k => interval_Mul.f k a0 a1 b0 b1) (m, M, 0) ∧ (m ≤ a0 * b0 ∧ m ≤ a0 * b1 ∧ m ≤ a1 * b0 ∧ m ≤ a1 * b1) ∧ (a0 * b0 ≤ M ∧ a0 * b1 ≤ M ∧ a1 * b0 ≤ M ∧ a1 * b1 ≤ M) ∧
  (m = a0 * b0 ∨ m = a0 * b1 ∨ m = a1 * b0 ∨ m = a1 * b1) ∧ (M = a0 * b0 ∨ M = a0 * b1 ∨ M = a1 * b0 ∨ M = a1 * b1) := by
 have ck : Ev (fun k => interval_both.f k a0 a1 b0 b1) 0 := by
  have e1 := interval_Check_ev a0 a1
  have e2 := interval_Check_ev b0 b1
  unfold inU at h1 h2 h3 h4
  rw [show sp a0 a1 = 0 by unfold sp; rw [if_neg (by omega), if_neg (by omega)]] at e1
  rw [show sp b0 b1 = 0 by unfold sp; rw [if_neg (by omega), if_neg (by omega)]] at e2
  unfold interval_both.f
  refine ev_bind e1 ?_
  refine Ev.congr (fun k => if_pos rfl) ?_
  exact ev_bind e2 (ev_some 0 fun k => rfl)
 have run : ∀ k, interval_Mul.l0 (k + 9) 0 b1 a1 b0 a1 b1 a0 b0 a0 0 0 = some (nlo 3 (a1 * b1) (nlo 2 (a1 * b0) (nlo 1 (a0 * b1) (nlo 0 (a0 * b0) 0))), nhi 3 (a1 * b1) (nhi 2 (a1 * b0) (nhi 1 (a0 * b1) (nhi 0 (a0 * b0) 0))), 0) := by
  intro k
  rw [mul_step (i' := 1) (a := a0) (b := b0) (k + 7) (by decide) (by decide) rfl rfl rfl h1 h3, mul_step (i' := 2) (a := a0) (b := b1) (k + 5) (by decide) (by decide) rfl rfl rfl h1 h4, mul_step (i' := 3) (a := a1) (b := b0) (k + 3) (by decide) (by decide) rfl rfl rfl h2 h3, mul_step (i' := 4) (a := a1) (b := b1) (k + 1) (by decide) (by decide) rfl rfl rfl h2 h4, interval_Mul.l0, if_neg (by decide)]
 have run2 : Ev (fun k => interval_Mul.f k a0 a1 b0 b1) (nlo 3 (a1 * b1) (nlo 2 (a1 * b0) (nlo 1 (a0 * b1) (nlo 0 (a0 * b0) 0))), nhi 3 (a1 * b1) (nhi 2 (a1 * b0) (nhi 1 (a0 * b1) (nhi 0 (a0 * b0) 0))), 0) := by
  unfold interval_Mul.f
  refine ev_bind ck ?_
  refine Ev.congr (fun k => if_pos rfl) ?_
  exact ev_some 9 run
 refine ⟨_, _, run2, ?_⟩
 generalize a0 * b0 = p
 generalize a0 * b1 = q
 generalize a1 * b0 = r
 generalize a1 * b1 = s
 obtain ⟨u1, _, u3⟩ := lo_step (i := 0) (p := p) (lo := 0)
 generalize nlo 0 p 0 = l1 at *
 obtain ⟨v1, _, v3⟩ := hi_step (i := 0) (p := p) (hi := 0)
 generalize nhi 0 p 0 = g1 at *
 obtain ⟨w1, w2, w3⟩ := lo_step (i := 1) (p := q) (lo := l1)
 generalize nlo 1 q l1 = l2 at *
 obtain ⟨x1, x2, x3⟩ := hi_step (i := 1) (p := q) (hi := g1)
 generalize nhi 1 q g1 = g2 at *
 obtain ⟨y1, y2, y3⟩ := lo_step (i := 2) (p := r) (lo := l2)
 generalize nlo 2 r l2 = l3 at *
 obtain ⟨z1, z2, z3⟩ := hi_step (i := 2) (p := r) (hi := g2)
 generalize nhi 2 r g2 = g3 at *
 obtain ⟨y4, y5, y6⟩ := lo_step (i := 3) (p := s) (lo := l3)
 generalize nlo 3 s l3 = l4 at *
 obtain ⟨z4, z5, z6⟩ := hi_step (i := 3) (p := s) (hi := g3)
 generalize nhi 3 s g3 = g4 at *
 have w2 := w2 (by decide)
 have x2 := x2 (by decide)
 have y2 := y2 (by decide)
 have z2 := z2 (by decide)
 have y5 := y5 (by decide)
 have z5 := z5 (by decide)
 refine ⟨⟨?_, ?_, ?_, ?_⟩, ⟨?_, ?_, ?_, ?_⟩, ?_, ?_⟩ <;> omega
end Go.Proofs.Ytmahlfjnejbcnaa.MulT
