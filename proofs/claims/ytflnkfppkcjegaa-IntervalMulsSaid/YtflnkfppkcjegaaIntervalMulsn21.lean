/- IntervalMuls: Mul of the program tells the least and the greatest product of bounds, and says where one is no bound. -/
import Derived.Test.YtflnkfppkcjegaaIntervalMulsn20
import Derived.Test.YtflnkfppkcjegaaIntervalMulsn17
import Derived.Test.YtflnkfppkcjegaaIntervalMulsn18
namespace Go.Proofs.Ytflnkfppkcjegaa.Pure
open Go.RowKit Go.Proofs.YtflnkfppkcjegaaW.PrintWords Go.Proofs.YtflnkfppkcjegaaW.PrintLast Go.Proofs.YtflnkfppkcjegaaW.PrintMore Go.Proofs.Ytflnkfppkcjegaa.Opn Go.Proofs.Ytflnkfppkcjegaa.PAll Go.Proofs.Ytflnkfppkcjegaa.Base
set_option linter.unusedVariables false
set_option linter.unusedSimpArgs false
/-- What an interval is found to be. -/
def sp (a b : Int) : Int := if a < -1000000000000000000 ∨ a > 1000000000000000000 ∨ b < -1000000000000000000 ∨ b > 1000000000000000000 then 3 else if b < a then 9 else 0
theorem spanErr_at (k : Nat) (a b : Int) : ephemerisref2_SpanErr.f (k + 1) a b = some (sp a b) := by
  unfold ephemerisref2_SpanErr.f sp
  by_cases c1 : a < -1000000000000000000
  · simp [c1, ephemerisref2_SpanErr.j0]
  by_cases c2 : a > 1000000000000000000
  · simp [c1, c2, ephemerisref2_SpanErr.j0]
  by_cases c3 : b < -1000000000000000000
  · simp [c1, c2, c3, ephemerisref2_SpanErr.j0]
  by_cases c4 : b > 1000000000000000000
  · simp [c1, c2, c3, c4, ephemerisref2_SpanErr.j0]
  by_cases c5 : b < a
  · simp [c1, c2, c3, c4, c5, ephemerisref2_SpanErr.j0]
  · simp [c1, c2, c3, c4, c5, ephemerisref2_SpanErr.j0]
theorem out_at (a : Int) : interval_out.f a = some (decide (a < -1000000000000000000 ∨ a > 1000000000000000000)) := by
  unfold interval_out.f
  by_cases c : a < -1000000000000000000
  · simp [c]
  · simp [c]
theorem check_at (k : Nat) (a b : Int) : interval_Check.f (k + 1) a b = some (sp a b) := by
  unfold interval_Check.f sp
  rw [out_at, Option.bind_some, out_at]
  by_cases c1 : a < -1000000000000000000
  · simp [c1, interval_Check.j0]
  by_cases c2 : a > 1000000000000000000
  · simp [c1, c2, interval_Check.j0]
  by_cases c3 : b < -1000000000000000000
  · simp [c1, c2, c3, interval_Check.j0]
  by_cases c4 : b > 1000000000000000000
  · simp [c1, c2, c3, c4, interval_Check.j0]
  by_cases c5 : b < a
  · simp [c1, c2, c3, c4, c5, interval_Check.j0]
  · simp [c1, c2, c3, c4, c5, interval_Check.j0]
theorem sp_zero {a b : Int} (h : sp a b = 0) : -1000000000000000000 ≤ a ∧ a ≤ b ∧ b ≤ 1000000000000000000 := by
  unfold sp at h
  split at h
  · exact absurd h (by decide)
  · split at h
    · exact absurd h (by decide)
    · omega
def two (a b c d : Int) : Int := if sp a b = 0 then sp c d else sp a b
theorem works_ev : Ev (fun k => ephemerislaw2_intervalWorks.f k) true := Ev.of ephemerislaw2_intervalWorks.mono (k := 30) (by decide +kernel)
open Go.Proofs.Ytflnkfppkcjegaa.WideN Go.Proofs.Ytflnkfppkcjegaa.WideT
theorem none_same (x : Int) : ephemerislaw2_none.f 0 0 x x = some true := by unfold ephemerislaw2_none.f; rw [if_pos rfl]; rfl
theorem both_ev (a b c d : Int) : Ev (fun k => interval_both.f k a b c d) (two a b c d) := by
  refine ev_some 1 fun k => ?_
  unfold interval_both.f two
  rw [check_at, Option.bind_some, check_at]
  split <;> rfl
theorem twoErr_ev (a b c d : Int) : Ev (fun k => ephemerisref2_TwoErr.f k a b c d) (two a b c d) := by
  refine ev_some 1 fun k => ?_
  unfold ephemerisref2_TwoErr.f two
  rw [spanErr_at, Option.bind_some, spanErr_at]
  split <;> rfl
theorem two_zero {a b c d : Int} (h : two a b c d = 0) : sp a b = 0 ∧ sp c d = 0 := by
  unfold two at h
  by_cases z : sp a b = 0
  · rw [if_pos z] at h; exact ⟨z, h⟩
  · rw [if_neg z] at h; exact absurd h z
theorem abs_at (q : Int) (h1 : -2000000000000000000 ≤ q) (h2 : q ≤ 2000000000000000000) : interval_abs.f q = some (if q < 0 then -q else q) := by
  unfold interval_abs.f
  by_cases c : q < 0
  · rw [if_pos c, if_pos c, w64 (by omega) (by omega)]
  · rw [if_neg c, if_neg c]
def B18 (x : Int) : Prop := -1000000000000000000 ≤ x ∧ x ≤ 1000000000000000000
instance (x : Int) : Decidable (B18 x) := by unfold B18; infer_instance
theorem abs_mul {a b x y : Int} (hx : x = if a < 0 then -a else a) (hy : y = if b < 0 then -b else b) : B18 (a * b) ↔ x * y ≤ 1000000000000000000 := by
  unfold B18
  by_cases c : a < 0 <;> by_cases d : b < 0
  · rw [if_pos c] at hx; rw [if_pos d] at hy; rw [hx, hy]
    have := Int.mul_pos_of_neg_of_neg c d
    rw [Int.neg_mul_neg]; omega
  · rw [if_pos c] at hx; rw [if_neg d] at hy; rw [hx, hy]
    have := Int.mul_nonneg (show 0 ≤ -a by omega) (show 0 ≤ b by omega)
    rw [Int.neg_mul] at *; omega
  · rw [if_neg c] at hx; rw [if_pos d] at hy; rw [hx, hy]
    have := Int.mul_nonneg (show 0 ≤ a by omega) (show 0 ≤ -b by omega)
    rw [Int.mul_neg] at *; omega
  · rw [if_neg c] at hx; rw [if_neg d] at hy; rw [hx, hy]
    have := Int.mul_nonneg (show 0 ≤ a by omega) (show 0 ≤ b by omega)
    omega
theorem times_at (k : Nat) {a b : Int} (ha : B18 a) (hb : B18 b) : interval_times.f (k + 1) a b = some (if B18 (a * b) then (a * b, true) else (0, false)) := by
  obtain ⟨a1, a2⟩ := ha
  obtain ⟨b1, b2⟩ := hb
  unfold interval_times.f
  by_cases c1 : a = 0
  · rw [if_pos c1, interval_times.j0, if_pos rfl, c1, Int.zero_mul, if_pos (by unfold B18; omega)]
  rw [if_neg c1]
  by_cases c2 : b = 0
  · rw [interval_times.j0, c2, Int.mul_zero, if_pos (by decide)]; rfl
  have am := abs_mul (a := a) (b := b) rfl rfl
  rw [interval_times.j0, if_neg (by simpa using c2), abs_at a (by omega) (by omega), Option.bind_some, abs_at b (by omega) (by omega), Option.bind_some]
  have hb' : 0 < (if b < 0 then -b else b) ∧ (if b < 0 then -b else b) ≤ 1000000000000000000 := by split <;> omega
  have ha' : (if a < 0 then -a else a) ≤ 1000000000000000000 := by split <;> omega
  generalize (if b < 0 then -b else b) = y at *
  generalize (if a < 0 then -a else a) = x at *
  have q0 : 0 ≤ 1000000000000000000 / y := Int.ediv_nonneg (by omega) (by omega)
  have q2 : 1000000000000000000 / y ≤ 1000000000000000000 := Int.ediv_le_self _ (by omega)
  have q : x ≤ 1000000000000000000 / y ↔ x * y ≤ 1000000000000000000 := Int.le_ediv_iff_mul_le hb'.1
  rw [if_neg (by omega), w64 (x := 1000000000000000000 / y) (by omega) (by omega)]
  by_cases c : B18 (a * b)
  · rw [if_neg (by have := q.2 (am.1 c); omega), if_pos c]
    unfold B18 at c
    rw [w64 (by omega) (by omega)]
  · rw [if_pos, if_neg c]
    rcases Int.lt_or_le (1000000000000000000 / y) x with h | h
    · exact h
    · exact absurd (am.2 (q.1 h)) c
def nlo (i p lo : Int) : Int := if i = 0 ∨ p < lo then p else lo
def nhi (i p hi : Int) : Int := if i = 0 ∨ p > hi then p else hi
theorem mul_step (k : Nat) {i i' a b x2 x3 x4 x5 x6 x7 x8 x9 lo hi : Int} (h0 : 0 ≤ i) (h3 : i < 4) (ei : i + 1 = i') (ea : rd [x9, x7, x5, x3] i = a) (eb : rd [x8, x6, x4, x2] i = b) (ha : B18 a) (hb : B18 b) (hp : B18 (a * b)) :
    interval_Mul.l0 (k + 2) i x2 x3 x4 x5 x6 x7 x8 x9 lo hi = interval_Mul.l0 k i' x2 x3 x4 x5 x6 x7 x8 x9 (nlo i (a * b) lo) (nhi i (a * b) hi) := by
  unfold nlo nhi
  rw [interval_Mul.l0, if_pos h3, if_pos h0, ea, eb, times_at k ha hb, if_pos hp, Option.bind_some, if_pos rfl]
  dsimp only
  have e : wrap64 (i + 1) = i' := by rw [← ei]; exact w64 (by omega) (by omega)
  by_cases c : i = 0
  · rw [if_pos c, interval_Mul.j1, if_pos rfl, if_pos c, e, if_pos (Or.inl c), if_pos (Or.inl c)]
  rw [if_neg c]
  by_cases c2 : a * b < lo
  · rw [interval_Mul.j1, if_pos (decide_eq_true c2), if_neg c, e, if_pos (Or.inr c2)]
    by_cases c3 : a * b > hi
    · rw [if_pos c3, if_pos (Or.inr c3)]
    · rw [if_neg c3, if_neg (by simp [c, c3])]
  · rw [interval_Mul.j1, if_neg (by simpa using c2), if_neg c, e, if_neg (show ¬ (i = 0 ∨ a * b < lo) by simp [c, c2])]
    by_cases c3 : a * b > hi
    · rw [if_pos c3, if_pos (Or.inr c3)]
    · rw [if_neg c3, if_neg (by simp [c, c3])]
theorem mul_bad (k : Nat) {i a b x2 x3 x4 x5 x6 x7 x8 x9 lo hi : Int} (h0 : 0 ≤ i) (h3 : i < 4) (ea : rd [x9, x7, x5, x3] i = a) (eb : rd [x8, x6, x4, x2] i = b) (ha : B18 a) (hb : B18 b) (hp : ¬ B18 (a * b)) :
    interval_Mul.l0 (k + 2) i x2 x3 x4 x5 x6 x7 x8 x9 lo hi = some (0, 0, 14) := by
  rw [interval_Mul.l0, if_pos h3, if_pos h0, ea, eb, times_at k ha hb, if_neg hp, Option.bind_some, if_neg (by simp)]
theorem lo_step {i p lo : Int} : nlo i p lo ≤ p ∧ (i ≠ 0 → nlo i p lo ≤ lo) ∧ (nlo i p lo = p ∨ nlo i p lo = lo ∧ i ≠ 0) := by
  unfold nlo
  split <;> omega
theorem hi_step {i p hi : Int} : p ≤ nhi i p hi ∧ (i ≠ 0 → hi ≤ nhi i p hi) ∧ (nhi i p hi = p ∨ nhi i p hi = hi ∧ i ≠ 0) := by
  unfold nhi
  split <;> omega
/-- Mul: the least and the greatest product of the ends. -/
theorem mul_ev {a0 a1 b0 b1 : Int} (h1 : B18 a0) (h2 : B18 a1) (h3 : B18 b0) (h4 : B18 b1) (z : two a0 a1 b0 b1 = 0) (f1 : B18 (a0 * b0)) (f2 : B18 (a0 * b1)) (f3 : B18 (a1 * b0)) (f4 : B18 (a1 * b1)) : ∃ m M : Int, Ev (fun k => interval_Mul.f k a0 a1 b0 b1) (m, M, 0) ∧ (m ≤ a0 * b0 ∧ m ≤ a0 * b1 ∧ m ≤ a1 * b0 ∧ m ≤ a1 * b1) ∧ (a0 * b0 ≤ M ∧ a0 * b1 ≤ M ∧ a1 * b0 ≤ M ∧ a1 * b1 ≤ M) ∧
    (m = a0 * b0 ∨ m = a0 * b1 ∨ m = a1 * b0 ∨ m = a1 * b1) ∧ (M = a0 * b0 ∨ M = a0 * b1 ∨ M = a1 * b0 ∨ M = a1 * b1) := by
  have ck := both_ev a0 a1 b0 b1
  rw [z] at ck
  have run : ∀ k, interval_Mul.l0 (k + 9) 0 b1 a1 b0 a1 b1 a0 b0 a0 0 0 = some (nlo 3 (a1 * b1) (nlo 2 (a1 * b0) (nlo 1 (a0 * b1) (nlo 0 (a0 * b0) 0))), nhi 3 (a1 * b1) (nhi 2 (a1 * b0) (nhi 1 (a0 * b1) (nhi 0 (a0 * b0) 0))), 0) := by
    intro k
    rw [mul_step (i' := 1) (a := a0) (b := b0) (k + 7) (by decide) (by decide) rfl rfl rfl h1 h3 f1, mul_step (i' := 2) (a := a0) (b := b1) (k + 5) (by decide) (by decide) rfl rfl rfl h1 h4 f2, mul_step (i' := 3) (a := a1) (b := b0) (k + 3) (by decide) (by decide) rfl rfl rfl h2 h3 f3, mul_step (i' := 4) (a := a1) (b := b1) (k + 1) (by decide) (by decide) rfl rfl rfl h2 h4 f4, interval_Mul.l0, if_neg (by decide)]
  have run2 : Ev (fun k => interval_Mul.f k a0 a1 b0 b1) (nlo 3 (a1 * b1) (nlo 2 (a1 * b0) (nlo 1 (a0 * b1) (nlo 0 (a0 * b0) 0))), nhi 3 (a1 * b1) (nhi 2 (a1 * b0) (nhi 1 (a0 * b1) (nhi 0 (a0 * b0) 0))), 0) := by
    unfold interval_Mul.f
    refine ev_bind ck ?_
    refine Ev.congr (fun k => if_pos rfl) ?_
    exact ev_some 9 run
  refine ⟨_, _, run2, ?_⟩
  clear run run2 ck z f1 f2 f3 f4
  generalize a0 * b0 = p
  generalize a0 * b1 = q
  generalize a1 * b0 = r
  generalize a1 * b1 = s
  obtain ⟨u1, _, u3⟩ := lo_step (i := 0) (p := p) (lo := 0)
  generalize nlo 0 p 0 = l1 at *
  obtain ⟨v1, _, v3⟩ := hi_step (i := 0) (p := p) (hi := 0)
  generalize nhi 0 p 0 = g1 at *
  obtain ⟨w1, w2, w3⟩ := lo_step (i := 1) (p := q) (lo := l1)
  generalize nlo 1 q l1 = l2 at *
  obtain ⟨x1, x2, x3⟩ := hi_step (i := 1) (p := q) (hi := g1)
  generalize nhi 1 q g1 = g2 at *
  obtain ⟨y1, y2, y3⟩ := lo_step (i := 2) (p := r) (lo := l2)
  generalize nlo 2 r l2 = l3 at *
  obtain ⟨z1, z2, z3⟩ := hi_step (i := 2) (p := r) (hi := g2)
  generalize nhi 2 r g2 = g3 at *
  obtain ⟨y4, y5, y6⟩ := lo_step (i := 3) (p := s) (lo := l3)
  generalize nlo 3 s l3 = l4 at *
  obtain ⟨z4, z5, z6⟩ := hi_step (i := 3) (p := s) (hi := g3)
  generalize nhi 3 s g3 = g4 at *
  have w2 := w2 (by decide)
  have x2 := x2 (by decide)
  have y2 := y2 (by decide)
  have z2 := z2 (by decide)
  have y5 := y5 (by decide)
  have z5 := z5 (by decide)
  refine ⟨⟨?_, ?_, ?_, ?_⟩, ⟨?_, ?_, ?_, ?_⟩, ?_, ?_⟩ <;> omega
theorem mul_over {a0 a1 b0 b1 : Int} (h1 : B18 a0) (h2 : B18 a1) (h3 : B18 b0) (h4 : B18 b1) (z : two a0 a1 b0 b1 = 0) (hf : ¬ (B18 (a0 * b0) ∧ B18 (a0 * b1) ∧ B18 (a1 * b0) ∧ B18 (a1 * b1))) : Ev (fun k => interval_Mul.f k a0 a1 b0 b1) (0, 0, 14) := by
  have ck := both_ev a0 a1 b0 b1
  rw [z] at ck
  unfold interval_Mul.f
  refine ev_bind ck ?_
  refine Ev.congr (fun k => if_pos rfl) ?_
  by_cases f1 : B18 (a0 * b0)
  · by_cases f2 : B18 (a0 * b1)
    · by_cases f3 : B18 (a1 * b0)
      · exact ev_some 9 fun k => by rw [mul_step (i' := 1) (a := a0) (b := b0) (k + 7) (by decide) (by decide) rfl rfl rfl h1 h3 f1, mul_step (i' := 2) (a := a0) (b := b1) (k + 5) (by decide) (by decide) rfl rfl rfl h1 h4 f2, mul_step (i' := 3) (a := a1) (b := b0) (k + 3) (by decide) (by decide) rfl rfl rfl h2 h3 f3, mul_bad (a := a1) (b := b1) (k + 1) (by decide) (by decide) rfl rfl h2 h4 (fun f4 => hf ⟨f1, f2, f3, f4⟩)]
      · exact ev_some 7 fun k => by rw [mul_step (i' := 1) (a := a0) (b := b0) (k + 5) (by decide) (by decide) rfl rfl rfl h1 h3 f1, mul_step (i' := 2) (a := a0) (b := b1) (k + 3) (by decide) (by decide) rfl rfl rfl h1 h4 f2, mul_bad (a := a1) (b := b0) (k + 1) (by decide) (by decide) rfl rfl h2 h3 f3]
    · exact ev_some 5 fun k => by rw [mul_step (i' := 1) (a := a0) (b := b0) (k + 3) (by decide) (by decide) rfl rfl rfl h1 h3 f1, mul_bad (a := a0) (b := b1) (k + 1) (by decide) (by decide) rfl rfl h1 h4 f2]
  · exact ev_some 2 fun k => mul_bad k (by decide) (by decide) rfl rfl h1 h3 f1
section
variable {a0 a1 b0 b1 lo hi p q i j m n : Int} {ys xs : List Int} {r : Bool}
theorem b18_w {x : Int} (h : B18 x) : -9223372036854775808 ≤ x ∧ x ≤ 9223372036854775807 := by unfold B18 at h; omega
/-- a product that is a bound, where Mul has told bounds -/
theorem step_ok (low high : Bool) (hp : B18 p) (hq : B18 q) (hf : B18 (p * q)) (hlo : B18 lo) (hhi : B18 hi) (h1 : lo ≤ p * q) (h2 : p * q ≤ hi) (hr : rd xs j = q) (j0 : 0 ≤ j) (jm : j < m) (hx : (xs.length : Int) = m) (m2 : m ≤ 4)
    (next : Ev (fun k => ephemerislaw2_IntervalMuls.l1 k 0 (low || decide (lo = p * q)) (high || decide (p * q = hi)) p ys n i xs m (j + 1) b0 b1 lo hi) r) :
    Ev (fun k => ephemerislaw2_IntervalMuls.l1 k 0 low high p ys n i xs m j b0 b1 lo hi) r := by
  obtain ⟨w, ew, hw⟩ := product_ev (b18_w hp).1 (b18_w hp).2 (b18_w hq).1 (b18_w hq).2
  have ef := fine_ev hw
  obtain ⟨u, eu, hu⟩ := towide_ev (b18_w hlo).1 (b18_w hlo).2
  have c1 := compare_ev hu.wd hw
  obtain ⟨v, ev', hv⟩ := towide_ev (b18_w hhi).1 (b18_w hhi).2
  have c2 := compare_ev hw hv.wd
  refine ev_step 1 (fun k => by rw [ephemerislaw2_IntervalMuls.l1, if_pos jm, if_pos j0, if_pos (by omega), hr]) ?_
  refine ev_bind ew (ev_bind ef ?_)
  refine Ev.congr (fun k => if_pos (decide_eq_true hf)) ?_
  refine ev_bind eu (ev_bind c1 (ev_bind ev' (ev_bind c2 ?_)))
  refine Ev.congr (fun k => if_pos rfl) ?_
  have g1 : ¬ sg (lo - p * q) > 0 := by unfold sg; split <;> (try split) <;> omega
  have g2 : ¬ sg (p * q - hi) > 0 := by unfold sg; split <;> (try split) <;> omega
  have d1 : (sg (lo - p * q) == 0) = decide (lo = p * q) := by
    unfold sg
    by_cases c : lo = p * q
    · rw [if_neg (by omega), if_pos (by omega), decide_eq_true c]; rfl
    · rw [if_pos (by omega), decide_eq_false c]; rfl
  have d2 : (sg (p * q - hi) == 0) = decide (p * q = hi) := by
    unfold sg
    by_cases c : p * q = hi
    · rw [if_neg (by omega), if_pos (by omega), decide_eq_true c]; rfl
    · rw [if_pos (by omega), decide_eq_false c]; rfl
  refine Ev.congr (fun k => if_neg g1) (Ev.congr (fun k => if_neg g2) ?_)
  rw [w64 (x := j + 1) (by omega) (by omega), d1, d2]
  cases low <;> cases high <;> simpa using next
/-- a product that is a bound, where Mul has told that one is not -/
theorem step_skip (low high : Bool) (hp : B18 p) (hq : B18 q) (hf : B18 (p * q)) (hr : rd xs j = q) (j0 : 0 ≤ j) (jm : j < m) (hx : (xs.length : Int) = m) (m2 : m ≤ 4)
    (next : ∀ low high, Ev (fun k => ephemerislaw2_IntervalMuls.l1 k 14 low high p ys n i xs m (j + 1) b0 b1 0 0) r) :
    Ev (fun k => ephemerislaw2_IntervalMuls.l1 k 14 low high p ys n i xs m j b0 b1 0 0) r := by
  obtain ⟨w, ew, hw⟩ := product_ev (b18_w hp).1 (b18_w hp).2 (b18_w hq).1 (b18_w hq).2
  have ef := fine_ev hw
  obtain ⟨u, eu, hu⟩ := towide_ev (n := 0) (by omega) (by omega)
  have c1 := compare_ev hu.wd hw
  have c2 := compare_ev hw hu.wd
  refine ev_step 1 (fun k => by rw [ephemerislaw2_IntervalMuls.l1, if_pos jm, if_pos j0, if_pos (by omega), hr]) ?_
  refine ev_bind ew (ev_bind ef ?_)
  refine Ev.congr (fun k => if_pos (decide_eq_true hf)) ?_
  refine ev_bind eu (ev_bind c1 (ev_bind eu (ev_bind c2 ?_)))
  refine Ev.congr (fun k => if_neg (by decide)) ?_
  rw [w64 (x := j + 1) (by omega) (by omega)]
  cases low <;> cases high <;> simp only [if_pos, if_neg, Bool.false_eq_true, if_false, if_true] <;> exact next _ _
theorem step_bad (low high : Bool) (hp : B18 p) (hq : B18 q) (hf : ¬ B18 (p * q)) (hr : rd xs j = q) (j0 : 0 ≤ j) (jm : j < m) (hx : (xs.length : Int) = m) :
    Ev (fun k => ephemerislaw2_IntervalMuls.l1 k 14 low high p ys n i xs m j b0 b1 0 0) true := by
  obtain ⟨w, ew, hw⟩ := product_ev (b18_w hp).1 (b18_w hp).2 (b18_w hq).1 (b18_w hq).2
  have ef := fine_ev hw
  refine ev_step 1 (fun k => by rw [ephemerislaw2_IntervalMuls.l1, if_pos jm, if_pos j0, if_pos (by omega), hr]) ?_
  refine ev_bind ew (ev_bind ef ?_)
  refine Ev.congr (fun k => if_neg (show ¬ decide _ = true by rw [decide_eq_true_eq]; exact hf)) ?_
  exact ev_some 0 fun k => by rw [none_same]; rfl
end
section
variable {a0 a1 b0 b1 lo hi e : Int} {r : Bool}
/-- into a row, out of a row -/
theorem row_in (low high : Bool) (i : Int) {p : Int} (i0 : 0 ≤ i) (i2 : i < 2) (hr : rd [a0, a1] i = p) (next : Ev (fun k => ephemerislaw2_IntervalMuls.l1 k e low high p [a0, a1] 2 i [b0, b1] 2 0 b0 b1 lo hi) r) : Ev (fun k => ephemerislaw2_IntervalMuls.l0 k e low high [a0, a1] 2 i b0 b1 lo hi) r := by
  have hl : ((([a0, a1] : List Int)).length : Int) = 2 := rfl
  refine ev_step 1 (fun k => by rw [ephemerislaw2_IntervalMuls.l0, if_pos i2, if_pos i0, if_pos (by omega), hr, Option.bind_some]) ?_
  exact next
theorem row_out (low high : Bool) (i : Int) {p : Int} (i0 : 0 ≤ i) (i2 : i < 2) (next : Ev (fun k => ephemerislaw2_IntervalMuls.l0 k e low high [a0, a1] 2 (i + 1) b0 b1 lo hi) r) : Ev (fun k => ephemerislaw2_IntervalMuls.l1 k e low high p [a0, a1] 2 i [b0, b1] 2 (0 + 1 + 1) b0 b1 lo hi) r := by
  refine ev_step 1 (fun k => by rw [ephemerislaw2_IntervalMuls.l1, if_neg (by omega), w64 (x := i + 1) (by omega) (by omega)]) next
theorem rows_end (low high : Bool) (h : e = 0) (hl : low = true) (hh : high = true) : Ev (fun k => ephemerislaw2_IntervalMuls.l0 k e low high [a0, a1] 2 (0 + 1 + 1) b0 b1 lo hi) true := by
  subst hl hh h
  exact ev_some 1 fun k => by rw [ephemerislaw2_IntervalMuls.l0, if_neg (by omega), if_pos rfl, if_pos rfl]
end
theorem IntervalMuls : PureX := by
  intro s t hs ht
  rcases s with ⟨a0, a1⟩
  rcases t with ⟨b0, b1⟩
  refine ev_k ?_
  unfold ephemerislaw2_IntervalMuls.f
  refine ev_bind works_ev ?_
  refine Ev.congr (fun k => if_pos rfl) ?_
  show Ev (fun k => (interval_Mul.f k a0 a1 b0 b1).bind _) true
  have tw := twoErr_ev a0 a1 b0 b1
  by_cases z : two a0 a1 b0 b1 = 0
  · obtain ⟨z1, z2⟩ := two_zero z
    rw [z] at tw
    obtain ⟨x1, x2, x3⟩ := sp_zero z1
    obtain ⟨y1, y2, y3⟩ := sp_zero z2
    have h1 : B18 a0 := ⟨by omega, by omega⟩
    have h2 : B18 a1 := ⟨by omega, by omega⟩
    have h3 : B18 b0 := ⟨by omega, by omega⟩
    have h4 : B18 b1 := ⟨by omega, by omega⟩
    have len : ∀ a b : Int, (([a, b] : List Int).length : Int) = 2 := fun _ _ => rfl
    by_cases hf : B18 (a0 * b0) ∧ B18 (a0 * b1) ∧ B18 (a1 * b0) ∧ B18 (a1 * b1)
    · obtain ⟨f1, f2, f3, f4⟩ := hf
      obtain ⟨m, M, em, ⟨l1, l2, l3, l4⟩, ⟨g1, g2, g3, g4⟩, lm, gm⟩ := mul_ev h1 h2 h3 h4 z f1 f2 f3 f4
      have hm : B18 m := by unfold B18 at *; omega
      have hM : B18 M := by unfold B18 at *; omega
      refine ev_bind em (ev_bind tw ?_)
      refine Ev.congr (fun k => if_pos rfl) (Ev.congr (fun k => Option.bind_some _ _) ?_)
      rw [len]
      refine row_in (p := a0) false false 0 (by omega) (by omega) rfl ?_
      refine step_ok _ _ h1 h3 f1 hm hM l1 g1 rfl (by omega) (by omega) rfl (by omega) ?_
      refine step_ok _ _ h1 h4 f2 hm hM l2 g2 rfl (by omega) (by omega) rfl (by omega) ?_
      refine row_out _ _ 0 (by omega) (by omega) (row_in (p := a1) _ _ (0 + 1) (by omega) (by omega) rfl ?_)
      refine step_ok _ _ h2 h3 f3 hm hM l3 g3 rfl (by omega) (by omega) rfl (by omega) ?_
      refine step_ok _ _ h2 h4 f4 hm hM l4 g4 rfl (by omega) (by omega) rfl (by omega) ?_
      refine row_out _ _ (0 + 1) (by omega) (by omega) (rows_end _ _ rfl ?_ ?_)
      · rcases lm with h | h | h | h <;> simp [h]
      · rcases gm with h | h | h | h <;> simp [h]
    · refine ev_bind (mul_over h1 h2 h3 h4 z hf) (ev_bind tw ?_)
      refine Ev.congr (fun k => if_pos rfl) (Ev.congr (fun k => Option.bind_some _ _) ?_)
      rw [len]
      refine row_in (p := a0) false false 0 (by omega) (by omega) rfl ?_
      by_cases f1 : B18 (a0 * b0)
      · refine step_skip _ _ h1 h3 f1 rfl (by omega) (by omega) rfl (by omega) fun low high => ?_
        by_cases f2 : B18 (a0 * b1)
        · refine step_skip _ _ h1 h4 f2 rfl (by omega) (by omega) rfl (by omega) fun low high => ?_
          refine row_out _ _ 0 (by omega) (by omega) (row_in (p := a1) _ _ (0 + 1) (by omega) (by omega) rfl ?_)
          by_cases f3 : B18 (a1 * b0)
          · refine step_skip _ _ h2 h3 f3 rfl (by omega) (by omega) rfl (by omega) fun low high => ?_
            exact step_bad _ _ h2 h4 (fun f4 => hf ⟨f1, f2, f3, f4⟩) rfl (by omega) (by omega) rfl
          · exact step_bad _ _ h2 h3 f3 rfl (by omega) (by omega) rfl
        · exact step_bad _ _ h1 h4 f2 rfl (by omega) (by omega) rfl
      · exact step_bad _ _ h1 h3 f1 rfl (by omega) (by omega) rfl
  · have e : Ev (fun k => interval_Mul.f k a0 a1 b0 b1) (0, 0, two a0 a1 b0 b1) := by
      unfold interval_Mul.f
      refine ev_bind (both_ev a0 a1 b0 b1) ?_
      exact Ev.congr (fun k => if_neg z) (ev_some 0 fun k => rfl)
    refine ev_bind e (ev_bind tw ?_)
    refine Ev.congr (fun k => if_neg z) ?_
    exact ev_some 0 fun k => by rw [none_same]; rfl
end Go.Proofs.Ytflnkfppkcjegaa.Pure
