/- IntervalDivs: the bounds of Div are those of the quotients, rounded outwards by at most 1. -/
import Derived.Test.YtflnkfppkcjegaaIntervalDivsn20
import Derived.Test.YtflnkfppkcjegaaIntervalDivsn17
import Derived.Test.YtflnkfppkcjegaaIntervalDivsn18
namespace Go.Proofs.Ytflnkfppkcjegaa.Pure
open Go.RowKit Go.Proofs.YtflnkfppkcjegaaW.PrintWords Go.Proofs.YtflnkfppkcjegaaW.PrintLast Go.Proofs.YtflnkfppkcjegaaW.PrintMore Go.Proofs.Ytflnkfppkcjegaa.Opn Go.Proofs.Ytflnkfppkcjegaa.PAll Go.Proofs.Ytflnkfppkcjegaa.Base
set_option linter.unusedVariables false
set_option linter.unusedSimpArgs false
/-- What an interval is found to be. -/
def sp (a b : Int) : Int := if a < -1000000000000000000 ∨ a > 1000000000000000000 ∨ b < -1000000000000000000 ∨ b > 1000000000000000000 then 3 else if b < a then 9 else 0
theorem spanErr_at (k : Nat) (a b : Int) : ephemerisref2_SpanErr.f (k + 1) a b = some (sp a b) := by
  unfold ephemerisref2_SpanErr.f sp
  by_cases c1 : a < -1000000000000000000
  · simp [c1, ephemerisref2_SpanErr.j0]
  by_cases c2 : a > 1000000000000000000
  · simp [c1, c2, ephemerisref2_SpanErr.j0]
  by_cases c3 : b < -1000000000000000000
  · simp [c1, c2, c3, ephemerisref2_SpanErr.j0]
  by_cases c4 : b > 1000000000000000000
  · simp [c1, c2, c3, c4, ephemerisref2_SpanErr.j0]
  by_cases c5 : b < a
  · simp [c1, c2, c3, c4, c5, ephemerisref2_SpanErr.j0]
  · simp [c1, c2, c3, c4, c5, ephemerisref2_SpanErr.j0]
theorem out_at (a : Int) : interval_out.f a = some (decide (a < -1000000000000000000 ∨ a > 1000000000000000000)) := by
  unfold interval_out.f
  by_cases c : a < -1000000000000000000
  · simp [c]
  · simp [c]
theorem check_at (k : Nat) (a b : Int) : interval_Check.f (k + 1) a b = some (sp a b) := by
  unfold interval_Check.f sp
  rw [out_at, Option.bind_some, out_at]
  by_cases c1 : a < -1000000000000000000
  · simp [c1, interval_Check.j0]
  by_cases c2 : a > 1000000000000000000
  · simp [c1, c2, interval_Check.j0]
  by_cases c3 : b < -1000000000000000000
  · simp [c1, c2, c3, interval_Check.j0]
  by_cases c4 : b > 1000000000000000000
  · simp [c1, c2, c3, c4, interval_Check.j0]
  by_cases c5 : b < a
  · simp [c1, c2, c3, c4, c5, interval_Check.j0]
  · simp [c1, c2, c3, c4, c5, interval_Check.j0]
theorem sp_zero {a b : Int} (h : sp a b = 0) : -1000000000000000000 ≤ a ∧ a ≤ b ∧ b ≤ 1000000000000000000 := by
  unfold sp at h
  split at h
  · exact absurd h (by decide)
  · split at h
    · exact absurd h (by decide)
    · omega
def two (a b c d : Int) : Int := if sp a b = 0 then sp c d else sp a b
theorem works_ev : Ev (fun k => ephemerislaw2_intervalWorks.f k) true := Ev.of ephemerislaw2_intervalWorks.mono (k := 30) (by decide +kernel)
open Go.Proofs.Ytflnkfppkcjegaa.WideN Go.Proofs.Ytflnkfppkcjegaa.WideT
theorem none_same (x : Int) : ephemerislaw2_none.f 0 0 x x = some true := by unfold ephemerislaw2_none.f; rw [if_pos rfl]; rfl
theorem two_zero {a b c d : Int} (h : two a b c d = 0) : sp a b = 0 ∧ sp c d = 0 := by
  unfold two at h
  by_cases z : sp a b = 0
  · rw [if_pos z] at h; exact ⟨z, h⟩
  · rw [if_neg z] at h; exact absurd h z
theorem both_ev (a b c d : Int) : Ev (fun k => interval_both.f k a b c d) (two a b c d) := by
  refine ev_some 1 fun k => ?_
  unfold interval_both.f two
  rw [check_at, Option.bind_some, check_at]
  split <;> rfl
theorem twoErr_ev (a b c d : Int) : Ev (fun k => ephemerisref2_TwoErr.f k a b c d) (two a b c d) := by
  refine ev_some 1 fun k => ?_
  unfold ephemerisref2_TwoErr.f two
  rw [spanErr_at, Option.bind_some, spanErr_at]
  split <;> rfl
theorem ilt_or (a b : Int) : a < b ∨ b ≤ a := by omega
/-- A quotient rounded down, by a positive number. -/
theorem floor_pos {a b : Int} (ha : -9223372036854775808 ≤ a ∧ a ≤ 9223372036854775807) (hb : 0 < b) : interval_Floor.f a b = some (a / b) := by
  have hd := Int.tdiv_eq_ediv (a := a) (b := b)
  have hm := Int.mul_tdiv_add_tmod a b
  have hs : b.sign = 1 := Int.sign_eq_one_of_pos hb
  have h1 : b * (a / b) ≤ a := Int.mul_ediv_self_le (by omega)
  have h2 : a < b * (a / b) + b := Int.lt_mul_ediv_self_add hb
  have h3 : -9223372036854775808 ≤ a / b := by
    rcases ilt_or (a / b) (-9223372036854775808) with h | h
    · have : b * (a / b) ≤ 1 * (a / b) := Int.mul_le_mul_of_nonpos_right (by omega) (by omega)
      have h5 : b * (a / b) + b ≤ a / b + 1 := by
        have : b * (a / b + 1) ≤ 1 * (a / b + 1) := Int.mul_le_mul_of_nonpos_right (by omega) (by omega)
        rw [Int.mul_add, Int.mul_one] at this
        omega
      omega
    · exact h
  have h4 : a / b ≤ 9223372036854775807 := by
    rcases ilt_or 9223372036854775807 (a / b) with h | h
    · have : 1 * (a / b) ≤ b * (a / b) := Int.mul_le_mul_of_nonneg_right (by omega) (by omega)
      omega
    · exact h
  unfold interval_Floor.f
  rw [if_neg (by omega)]
  have hdec : decide (b < 0) = false := decide_eq_false (by omega)
  by_cases c : a.tmod b = 0
  · rw [if_pos c]
    have : b ∣ a := Int.dvd_of_tmod_eq_zero c
    rw [if_pos (Or.inr this)] at hd
    rw [hd, Int.add_zero, w64 h3 h4]
  · rw [if_neg c, hdec]
    have hnd : ¬ b ∣ a := fun h => c (Int.tmod_eq_zero_of_dvd h)
    by_cases c2 : a < 0
    · rw [if_pos (by simp [c2])]
      rw [if_neg (by rintro (h | h) <;> first | omega | exact hnd h), hs] at hd
      rw [hd, w64 (x := a / b + 1) (by omega) ?_, w64 (by omega) (by omega)]
      · congr 1; omega
      · rcases ilt_or 0 (a / b + 1) with h | h
        · have : b * 0 ≤ b * (a / b) := Int.mul_le_mul_of_nonneg_left (by omega) (by omega)
          omega
        · omega
    · rw [if_neg (by simp [c2])]
      rw [if_pos (Or.inl (by omega))] at hd
      rw [hd, Int.add_zero, w64 h3 h4]
theorem floor_neg {a b : Int} (ha : -9223372036854775807 ≤ a ∧ a ≤ 9223372036854775807) (hb : b < 0) : interval_Floor.f a b = some ((-a) / (-b)) := by
  have h := floor_pos (a := -a) (b := -b) (by omega) (by omega)
  rw [← h]
  unfold interval_Floor.f
  rw [if_neg (show ¬ b = 0 by omega), if_neg (show ¬ -b = 0 by omega), Int.tmod_neg, Int.neg_tmod, Int.tdiv_neg, Int.neg_tdiv, Int.neg_neg]
  by_cases c : a.tmod b = 0
  · rw [if_pos c, if_pos (show -(a.tmod b) = 0 by omega)]
  · rw [if_neg c, if_neg (show ¬ -(a.tmod b) = 0 by omega)]
    have a0 : a ≠ 0 := fun e => c (by rw [e]; exact Int.zero_tmod b)
    rcases Int.lt_or_le a 0 with d | d
    · rw [decide_eq_true d, decide_eq_true hb, decide_eq_false (show ¬ -a < 0 by omega), decide_eq_false (show ¬ -b < 0 by omega)]; rfl
    · rw [decide_eq_false (show ¬ a < 0 by omega), decide_eq_true hb, decide_eq_true (show -a < 0 by omega), decide_eq_false (show ¬ -b < 0 by omega)]; rfl
def B18 (x : Int) : Prop := -1000000000000000000 ≤ x ∧ x ≤ 1000000000000000000
theorem b18_w {x : Int} (h : B18 x) : -9223372036854775808 ≤ x ∧ x ≤ 9223372036854775807 := by unfold B18 at h; omega
/-- numerator and denominator of a quotient, the denominator positive -/
def nu (p q : Int) : Int := if q < 0 then -p else p
def de (q : Int) : Int := if q < 0 then -q else q
def fl (p q : Int) : Int := nu p q / de q
def ce (p q : Int) : Int := -(-nu p q / de q)
theorem div_range {n d : Int} (hn : B18 n) (hd : 1 ≤ d) : B18 (n / d) := by
  unfold B18 at *
  exact ⟨Int.le_ediv_of_mul_le (by omega) (by have := Int.mul_le_mul_of_nonneg_left hd (show (0 : Int) ≤ 1000000000000000000 by omega); omega), Int.ediv_le_of_le_mul (by omega) (by have := Int.mul_le_mul_of_nonneg_left hd (show (0 : Int) ≤ 1000000000000000000 by omega); omega)⟩
theorem nu_b {p q : Int} (hp : B18 p) : B18 (nu p q) := by unfold nu B18 at *; split <;> omega
theorem de_b {q : Int} (hq : B18 q) (h0 : q ≠ 0) : 1 ≤ de q ∧ B18 (de q) := by unfold de B18 at *; split <;> omega
theorem fl_b {p q : Int} (hp : B18 p) (hq : B18 q) (h0 : q ≠ 0) : B18 (fl p q) := div_range (nu_b hp) (de_b hq h0).1
theorem ce_b {p q : Int} (hp : B18 p) (hq : B18 q) (h0 : q ≠ 0) : B18 (ce p q) := by
  have h := div_range (n := -nu p q) (by have := nu_b (q := q) hp; unfold B18 at *; omega) (de_b hq h0).1
  unfold ce
  unfold B18 at *
  omega
theorem floor_at {p q : Int} (hp : B18 p) (hq : B18 q) (h0 : q ≠ 0) : interval_Floor.f p q = some (fl p q) := by
  unfold fl nu de
  have hp' := hp
  unfold B18 at hp'
  by_cases c : q < 0
  · rw [floor_neg (by omega) c, if_pos c, if_pos c]
  · rw [floor_pos (by omega) (by omega), if_neg c, if_neg c]
theorem ceil_at {p q : Int} (hp : B18 p) (hq : B18 q) (h0 : q ≠ 0) : interval_Ceil.f p q = some (ce p q) := by
  have hb := ce_b hp hq h0
  unfold interval_Ceil.f
  have hp' := hp
  unfold B18 at hp'
  rw [w64 (x := -p) (by omega) (by omega), floor_at (p := -p) (by unfold B18; omega) hq h0, Option.bind_some]
  have e : -fl (-p) q = ce p q := by
    unfold fl ce nu
    by_cases c : q < 0
    · rw [if_pos c, if_pos c]
    · rw [if_neg c, if_neg c]
  rw [e, w64 (b18_w hb).1 (b18_w hb).2]
/-- what the bounds of a quotient say -/
theorem fl_tells {p q : Int} (h0 : q ≠ 0) : fl p q * de q ≤ nu p q ∧ nu p q < (fl p q + 1) * de q ∧ nu p q ≤ ce p q * de q ∧ (ce p q - 1) * de q < nu p q := by
  have hd : 0 < de q := by unfold de; split <;> omega
  unfold fl ce
  generalize de q = d at *
  generalize nu p q = n at *
  have a1 := Int.ediv_mul_le n (show d ≠ 0 by omega)
  have a2 := Int.lt_ediv_add_one_mul_self n hd
  have a3 := Int.ediv_mul_le (-n) (show d ≠ 0 by omega)
  have a4 := Int.lt_ediv_add_one_mul_self (-n) hd
  refine ⟨a1, a2, ?_, ?_⟩
  · rw [Int.neg_mul]; omega
  · rw [Int.add_mul, Int.one_mul] at a4
    rw [Int.sub_mul, Int.neg_mul, Int.one_mul]; omega
theorem div_ev {a0 a1 b0 b1 : Int} (h1 : B18 a0) (h2 : B18 a1) (h3 : B18 b0) (h4 : B18 b1) (z : two a0 a1 b0 b1 = 0) (n0 : b0 ≠ 0) (n1 : b1 ≠ 0) (hz : ¬ (b0 ≤ 0 ∧ b1 ≥ 0)) :
    Ev (fun k => interval_Div.f k a0 a1 b0 b1) (mn (mn (mn (fl a0 b0) (fl a0 b1)) (fl a1 b0)) (fl a1 b1), mx (mx (mx (ce a0 b0) (ce a0 b1)) (ce a1 b0)) (ce a1 b1), 0) := by
  have ck := both_ev a0 a1 b0 b1
  rw [z] at ck
  unfold interval_Div.f
  refine ev_bind ck ?_
  refine Ev.congr (fun k => if_pos rfl) ?_
  have main : Ev (fun k => interval_Div.j0 k false a0 a1 b0 b1) (mn (mn (mn (fl a0 b0) (fl a0 b1)) (fl a1 b0)) (fl a1 b1), mx (mx (mx (ce a0 b0) (ce a0 b1)) (ce a1 b0)) (ce a1 b1), 0) := by
    refine ev_some 5 fun k => ?_
    rw [interval_Div.j0, if_neg (by simp), floor_at h1 h3 n0, Option.bind_some, ceil_at h1 h3 n0, Option.bind_some]
    rw [interval_Div.l0, if_pos (by decide), if_pos (by decide), show rd [a0, a1, a1] 0 = a0 from rfl, show rd [b1, b0, b1] 0 = b1 from rfl, floor_at h1 h4 n1, Option.bind_some, ceil_at h1 h4 n1, Option.bind_some, show wrap64 (0 + 1) = 1 by decide +kernel]
    rw [interval_Div.l0, if_pos (by decide), if_pos (by decide), show rd [a0, a1, a1] 1 = a1 from rfl, show rd [b1, b0, b1] 1 = b0 from rfl, floor_at h2 h3 n0, Option.bind_some, ceil_at h2 h3 n0, Option.bind_some, show wrap64 (1 + 1) = 2 by decide +kernel]
    rw [interval_Div.l0, if_pos (by decide), if_pos (by decide), show rd [a0, a1, a1] 2 = a1 from rfl, show rd [b1, b0, b1] 2 = b1 from rfl, floor_at h2 h4 n1, Option.bind_some, ceil_at h2 h4 n1, Option.bind_some, show wrap64 (2 + 1) = 3 by decide +kernel]
    rw [interval_Div.l0, if_neg (by decide)]
  by_cases c : b0 ≤ 0
  · refine Ev.congr (fun k => if_pos c) ?_
    rw [decide_eq_false (show ¬ b1 ≥ 0 from fun d => hz ⟨c, d⟩)]
    exact main
  · exact Ev.congr (fun k => if_neg c) main
section
variable {a0 a1 b0 b1 lo hi p q i j m n : Int} {ys xs : List Int} {r : Bool}
theorem sg_gt {x : Int} : sg x > 0 ↔ x > 0 := by unfold sg; split <;> (try split) <;> omega
theorem sg_lt {x : Int} : sg x < 0 ↔ x < 0 := by unfold sg; split <;> (try split) <;> omega
/-- one quotient -/
theorem step_ok (low high : Bool) (hp : B18 p) (hq : B18 q) (q0 : q ≠ 0) (hlo : B18 lo) (hhi : B18 hi) (h1 : lo * de q ≤ nu p q) (h2 : nu p q ≤ hi * de q) (hr : rd xs j = q) (j0 : 0 ≤ j) (jm : j < m) (hx : (xs.length : Int) = m) (m2 : m ≤ 4)
    (next : Ev (fun k => ephemerislaw2_IntervalDivs.l1 k 0 (low || decide ((lo + 1) * de q > nu p q)) (high || decide ((hi - 1) * de q < nu p q)) p ys n i xs m (j + 1) b0 b1 lo hi) r) :
    Ev (fun k => ephemerislaw2_IntervalDivs.l1 k 0 low high p ys n i xs m j b0 b1 lo hi) r := by
  have dq := de_b hq q0
  have np := nu_b (q := q) hp
  obtain ⟨u, eu, hu⟩ := towide_ev (b18_w np).1 (b18_w np).2
  obtain ⟨w1, e1, g1⟩ := product_ev (b18_w hlo).1 (b18_w hlo).2 (b18_w dq.2).1 (b18_w dq.2).2
  obtain ⟨w2, e2, g2⟩ := product_ev (b18_w hhi).1 (b18_w hhi).2 (b18_w dq.2).1 (b18_w dq.2).2
  have el : wrap64 (lo + 1) = lo + 1 := by unfold B18 at hlo; exact w64 (by omega) (by omega)
  have eh : wrap64 (hi - 1) = hi - 1 := by unfold B18 at hhi; exact w64 (by omega) (by omega)
  obtain ⟨w3, e3, g3⟩ := product_ev (a := lo + 1) (by unfold B18 at hlo; omega) (by unfold B18 at hlo; omega) (b18_w dq.2).1 (b18_w dq.2).2
  obtain ⟨w4, e4, g4⟩ := product_ev (a := hi - 1) (by unfold B18 at hhi; omega) (by unfold B18 at hhi; omega) (b18_w dq.2).1 (b18_w dq.2).2
  have c1 := compare_ev g1 hu.wd
  have c2 := compare_ev g2 hu.wd
  have c3 := compare_ev g3 hu.wd
  have c4 := compare_ev g4 hu.wd
  have d3 : decide (sg ((lo + 1) * de q - nu p q) > 0) = decide ((lo + 1) * de q > nu p q) := decide_eq_decide.2 (sg_gt.trans (by omega))
  have d4 : decide (sg ((hi - 1) * de q - nu p q) < 0) = decide ((hi - 1) * de q < nu p q) := decide_eq_decide.2 (sg_lt.trans (by omega))
  have J4 : Ev (fun k => ephemerislaw2_IntervalDivs.j4 k 0 low high p (de q) ys n i xs m j false b0 b1 lo hi u.1 u.2.1 u.2.2.1 u.2.2.2.1 u.2.2.2.2.1 u.2.2.2.2.2.1 u.2.2.2.2.2.2) r := by
    refine ev_step 1 (fun k => by rw [ephemerislaw2_IntervalDivs.j4, if_neg (by simp), w64 (x := j + 1) (by omega) (by omega), el, eh]) ?_
    cases low
    · refine Ev.congr (fun k => if_neg (by simp)) ?_
      refine ev_bind e3 (ev_bind c3 ?_)
      cases high
      · refine Ev.congr (fun k => if_neg (by simp)) ?_
        refine ev_bind e4 (ev_bind c4 ?_)
        rw [d3, d4]; simpa using next
      · refine Ev.congr (fun k => if_pos rfl) ?_
        rw [d3]; simpa using next
    · refine Ev.congr (fun k => if_pos rfl) ?_
      cases high
      · refine Ev.congr (fun k => if_neg (by simp)) ?_
        refine ev_bind e4 (ev_bind c4 ?_)
        rw [d4]; simpa using next
      · refine Ev.congr (fun k => if_pos rfl) ?_
        simpa using next
  have J3 : Ev (fun k => ephemerislaw2_IntervalDivs.j3 k 0 low high p (nu p q) (de q) ys n i xs m j b0 b1 lo hi) r := by
    refine ev_step 1 (fun k => by rw [ephemerislaw2_IntervalDivs.j3]) ?_
    refine ev_bind eu (ev_bind e1 (ev_bind c1 ?_))
    refine Ev.congr (fun k => if_neg (by rw [sg_gt]; omega)) ?_
    refine ev_bind e2 (ev_bind c2 ?_)
    rw [decide_eq_false (by rw [sg_lt]; omega)]
    exact J4
  refine ev_step 1 (fun k => ?_) J3
  rw [ephemerislaw2_IntervalDivs.l1, if_pos jm, if_pos j0, if_pos (by omega), hr]
  unfold nu de
  unfold B18 at hp hq
  by_cases c : q < 0
  · rw [if_pos c, if_pos c, if_pos c, w64 (x := -p) (by omega) (by omega), w64 (x := -q) (by omega) (by omega)]
  · rw [if_neg c, if_neg c, if_neg c]
end
section
variable {a0 a1 b0 b1 lo hi e : Int} {r : Bool}
theorem row_in (low high : Bool) (i : Int) {p : Int} (i0 : 0 ≤ i) (i2 : i < 2) (hr : rd [a0, a1] i = p) (next : Ev (fun k => ephemerislaw2_IntervalDivs.l1 k e low high p [a0, a1] 2 i [b0, b1] 2 0 b0 b1 lo hi) r) : Ev (fun k => ephemerislaw2_IntervalDivs.l0 k e low high [a0, a1] 2 i b0 b1 lo hi) r := by
  have hl : ((([a0, a1] : List Int)).length : Int) = 2 := rfl
  refine ev_step 1 (fun k => by rw [ephemerislaw2_IntervalDivs.l0, if_pos i2, if_pos i0, if_pos (by omega), hr, Option.bind_some]) ?_
  exact next
theorem row_out (low high : Bool) (i : Int) {p : Int} (i0 : 0 ≤ i) (i2 : i < 2) (next : Ev (fun k => ephemerislaw2_IntervalDivs.l0 k e low high [a0, a1] 2 (i + 1) b0 b1 lo hi) r) : Ev (fun k => ephemerislaw2_IntervalDivs.l1 k e low high p [a0, a1] 2 i [b0, b1] 2 (0 + 1 + 1) b0 b1 lo hi) r := by
  refine ev_step 1 (fun k => by rw [ephemerislaw2_IntervalDivs.l1, if_neg (by omega), w64 (x := i + 1) (by omega) (by omega)]) next
theorem rows_end (low high : Bool) (h : e = 0) (hl : low = true) (hh : high = true) : Ev (fun k => ephemerislaw2_IntervalDivs.l0 k e low high [a0, a1] 2 (0 + 1 + 1) b0 b1 lo hi) true := by
  subst hl hh h
  exact ev_some 1 fun k => by rw [ephemerislaw2_IntervalDivs.l0, if_neg (by omega), if_pos rfl, if_pos rfl]
end
theorem mn4 (a b c d : Int) : (mn (mn (mn a b) c) d ≤ a ∧ mn (mn (mn a b) c) d ≤ b ∧ mn (mn (mn a b) c) d ≤ c ∧ mn (mn (mn a b) c) d ≤ d) ∧ (mn (mn (mn a b) c) d = a ∨ mn (mn (mn a b) c) d = b ∨ mn (mn (mn a b) c) d = c ∨ mn (mn (mn a b) c) d = d) := by
  unfold mn
  split <;> split <;> split <;> refine ⟨⟨?_, ?_, ?_, ?_⟩, ?_⟩ <;> omega
theorem mx4 (a b c d : Int) : (a ≤ mx (mx (mx a b) c) d ∧ b ≤ mx (mx (mx a b) c) d ∧ c ≤ mx (mx (mx a b) c) d ∧ d ≤ mx (mx (mx a b) c) d) ∧ (mx (mx (mx a b) c) d = a ∨ mx (mx (mx a b) c) d = b ∨ mx (mx (mx a b) c) d = c ∨ mx (mx (mx a b) c) d = d) := by
  unfold mx
  split <;> split <;> split <;> refine ⟨⟨?_, ?_, ?_, ?_⟩, ?_⟩ <;> omega
theorem lo_ok {lo p q : Int} (q0 : q ≠ 0) (h : lo ≤ fl p q) : lo * de q ≤ nu p q := by
  have hd : 0 < de q := by unfold de; split <;> omega
  exact Int.le_trans (Int.mul_le_mul_of_nonneg_right h (by omega)) (fl_tells q0).1
theorem hi_ok {hi p q : Int} (q0 : q ≠ 0) (h : ce p q ≤ hi) : nu p q ≤ hi * de q := by
  have hd : 0 < de q := by unfold de; split <;> omega
  exact Int.le_trans (fl_tells q0).2.2.1 (Int.mul_le_mul_of_nonneg_right h (by omega))
theorem IntervalDivs : PureX := by
  intro s t hs ht
  rcases s with ⟨a0, a1⟩
  rcases t with ⟨b0, b1⟩
  refine ev_k ?_
  unfold ephemerislaw2_IntervalDivs.f
  refine ev_bind works_ev ?_
  refine Ev.congr (fun k => if_pos rfl) ?_
  show Ev (fun k => (interval_Div.f k a0 a1 b0 b1).bind _) true
  have tw := twoErr_ev a0 a1 b0 b1
  by_cases z : two a0 a1 b0 b1 = 0
  · obtain ⟨z1, z2⟩ := two_zero z
    rw [z] at tw
    obtain ⟨x1, x2, x3⟩ := sp_zero z1
    obtain ⟨y1, y2, y3⟩ := sp_zero z2
    have h1 : B18 a0 := ⟨by omega, by omega⟩
    have h2 : B18 a1 := ⟨by omega, by omega⟩
    have h3 : B18 b0 := ⟨by omega, by omega⟩
    have h4 : B18 b1 := ⟨by omega, by omega⟩
    have len : ∀ a b : Int, (([a, b] : List Int).length : Int) = 2 := fun _ _ => rfl
    by_cases hz : b0 ≤ 0 ∧ b1 ≥ 0
    · have e : Ev (fun k => interval_Div.f k a0 a1 b0 b1) (0, 0, 1) := by
        have ck := both_ev a0 a1 b0 b1
        rw [z] at ck
        unfold interval_Div.f
        refine ev_bind ck ?_
        refine Ev.congr (fun k => if_pos rfl) (Ev.congr (fun k => if_pos hz.1) ?_)
        rw [decide_eq_true hz.2]
        exact ev_some 1 fun k => by rw [interval_Div.j0, if_pos rfl]
      refine ev_bind e (ev_bind tw ?_)
      refine Ev.congr (fun k => if_pos rfl) (Ev.congr (fun k => if_pos hz.1) ?_)
      rw [decide_eq_true hz.2]
      exact ev_some 1 fun k => by rw [ephemerislaw2_IntervalDivs.j0, if_pos rfl, none_same]; rfl
    · have n0 : b0 ≠ 0 := by omega
      have n1 : b1 ≠ 0 := by omega
      have ed := div_ev h1 h2 h3 h4 z n0 n1 hz
      have r00 := fl_b h1 h3 n0
      have r01 := fl_b h1 h4 n1
      have r10 := fl_b h2 h3 n0
      have r11 := fl_b h2 h4 n1
      have s00 := ce_b h1 h3 n0
      have s01 := ce_b h1 h4 n1
      have s10 := ce_b h2 h3 n0
      have s11 := ce_b h2 h4 n1
      obtain ⟨⟨l1, l2, l3, l4⟩, lm⟩ := mn4 (fl a0 b0) (fl a0 b1) (fl a1 b0) (fl a1 b1)
      obtain ⟨⟨g1, g2, g3, g4⟩, gm⟩ := mx4 (ce a0 b0) (ce a0 b1) (ce a1 b0) (ce a1 b1)
      generalize mn (mn (mn (fl a0 b0) (fl a0 b1)) (fl a1 b0)) (fl a1 b1) = L at *
      generalize mx (mx (mx (ce a0 b0) (ce a0 b1)) (ce a1 b0)) (ce a1 b1) = H at *
      have hL : B18 L := by rcases lm with h | h | h | h <;> rw [h] <;> assumption
      have hH : B18 H := by rcases gm with h | h | h | h <;> rw [h] <;> assumption
      refine ev_bind ed (ev_bind tw ?_)
      have go : Ev (fun k => ephemerislaw2_IntervalDivs.j0 k 0 false a0 a1 b0 b1 L H) true := by
        refine ev_step 1 (fun k => by rw [ephemerislaw2_IntervalDivs.j0, if_neg (by simp), Option.bind_some, len]) ?_
        refine row_in (p := a0) false false 0 (by omega) (by omega) rfl ?_
        refine step_ok _ _ h1 h3 n0 hL hH (lo_ok n0 l1) (hi_ok n0 g1) rfl (by omega) (by omega) rfl (by omega) ?_
        refine step_ok _ _ h1 h4 n1 hL hH (lo_ok n1 l2) (hi_ok n1 g2) rfl (by omega) (by omega) rfl (by omega) ?_
        refine row_out _ _ 0 (by omega) (by omega) (row_in (p := a1) _ _ (0 + 1) (by omega) (by omega) rfl ?_)
        refine step_ok _ _ h2 h3 n0 hL hH (lo_ok n0 l3) (hi_ok n0 g3) rfl (by omega) (by omega) rfl (by omega) ?_
        refine step_ok _ _ h2 h4 n1 hL hH (lo_ok n1 l4) (hi_ok n1 g4) rfl (by omega) (by omega) rfl (by omega) ?_
        refine row_out _ _ (0 + 1) (by omega) (by omega) (rows_end _ _ rfl ?_ ?_)
        · have t1 := (fl_tells (p := a0) n0).2.1
          have t2 := (fl_tells (p := a0) n1).2.1
          have t3 := (fl_tells (p := a1) n0).2.1
          have t4 := (fl_tells (p := a1) n1).2.1
          rcases lm with h | h | h | h
          · rw [← h] at t1; rw [decide_eq_true t1]; simp
          · rw [← h] at t2; rw [decide_eq_true (p := (L + 1) * de b1 > nu a0 b1) t2]; simp
          · rw [← h] at t3; rw [decide_eq_true (p := (L + 1) * de b0 > nu a1 b0) t3]; simp
          · rw [← h] at t4; rw [decide_eq_true (p := (L + 1) * de b1 > nu a1 b1) t4]; simp
        · have t1 := (fl_tells (p := a0) n0).2.2.2
          have t2 := (fl_tells (p := a0) n1).2.2.2
          have t3 := (fl_tells (p := a1) n0).2.2.2
          have t4 := (fl_tells (p := a1) n1).2.2.2
          rcases gm with h | h | h | h
          · rw [← h] at t1; rw [decide_eq_true t1]; simp
          · rw [← h] at t2; rw [decide_eq_true t2]; simp
          · rw [← h] at t3; rw [decide_eq_true t3]; simp
          · rw [← h] at t4; rw [decide_eq_true t4]; simp
      by_cases c : b0 ≤ 0
      · refine Ev.congr (fun k => if_pos rfl) (Ev.congr (fun k => if_pos c) ?_)
        rw [decide_eq_false (show ¬ b1 ≥ 0 from fun d => hz ⟨c, d⟩)]
        exact go
      · exact Ev.congr (fun k => if_pos rfl) (Ev.congr (fun k => if_neg c) go)
  · have e : Ev (fun k => interval_Div.f k a0 a1 b0 b1) (0, 0, two a0 a1 b0 b1) := by
      unfold interval_Div.f
      refine ev_bind (both_ev a0 a1 b0 b1) ?_
      exact Ev.congr (fun k => if_neg z) (ev_some 0 fun k => rfl)
    refine ev_bind e (ev_bind tw ?_)
    refine Ev.congr (fun k => if_neg z) ?_
    exact ev_some 0 fun k => by rw [none_same]; rfl
end Go.Proofs.Ytflnkfppkcjegaa.Pure
