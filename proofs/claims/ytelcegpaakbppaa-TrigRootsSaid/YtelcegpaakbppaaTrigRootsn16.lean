/- TrigRoots: Root of the program answers as the document says: whole roots by halving. -/
import Derived.Test.YtelcegpaakbppaaTrigRootsn14
import Derived.Test.YtelcegpaakbppaaTrigRootsn15
namespace Go.Proofs.Ytelcegpaakbppaa.Pure
open Go.RowKit Go.Proofs.YtelcegpaakbppaaW.PrintWords Go.Proofs.YtelcegpaakbppaaW.PrintLast Go.Proofs.YtelcegpaakbppaaW.PrintMore Go.Proofs.Ytelcegpaakbppaa.Opn Go.Proofs.Ytelcegpaakbppaa.PAll Go.Proofs.Ytelcegpaakbppaa.Base
set_option linter.unusedVariables false
set_option linter.unusedSimpArgs false
/-- What an interval is found to be. -/
def sp (a b : Int) : Int := if a < -1000000000000000000 ∨ a > 1000000000000000000 ∨ b < -1000000000000000000 ∨ b > 1000000000000000000 then 3 else if b < a then 9 else 0
theorem spanErr_at (k : Nat) (a b : Int) : ephemerisref2_SpanErr.f (k + 1) a b = some (sp a b) := by
  unfold ephemerisref2_SpanErr.f sp
  by_cases c1 : a < -1000000000000000000
  · simp [c1, ephemerisref2_SpanErr.j0]
  by_cases c2 : a > 1000000000000000000
  · simp [c1, c2, ephemerisref2_SpanErr.j0]
  by_cases c3 : b < -1000000000000000000
  · simp [c1, c2, c3, ephemerisref2_SpanErr.j0]
  by_cases c4 : b > 1000000000000000000
  · simp [c1, c2, c3, c4, ephemerisref2_SpanErr.j0]
  by_cases c5 : b < a
  · simp [c1, c2, c3, c4, c5, ephemerisref2_SpanErr.j0]
  · simp [c1, c2, c3, c4, c5, ephemerisref2_SpanErr.j0]
theorem out_at (a : Int) : interval_out.f a = some (decide (a < -1000000000000000000 ∨ a > 1000000000000000000)) := by
  unfold interval_out.f
  by_cases c : a < -1000000000000000000
  · simp [c]
  · simp [c]
theorem check_at (k : Nat) (a b : Int) : interval_Check.f (k + 1) a b = some (sp a b) := by
  unfold interval_Check.f sp
  rw [out_at, Option.bind_some, out_at]
  by_cases c1 : a < -1000000000000000000
  · simp [c1, interval_Check.j0]
  by_cases c2 : a > 1000000000000000000
  · simp [c1, c2, interval_Check.j0]
  by_cases c3 : b < -1000000000000000000
  · simp [c1, c2, c3, interval_Check.j0]
  by_cases c4 : b > 1000000000000000000
  · simp [c1, c2, c3, c4, interval_Check.j0]
  by_cases c5 : b < a
  · simp [c1, c2, c3, c4, c5, interval_Check.j0]
  · simp [c1, c2, c3, c4, c5, interval_Check.j0]
theorem sp_zero {a b : Int} (h : sp a b = 0) : -1000000000000000000 ≤ a ∧ a ≤ b ∧ b ≤ 1000000000000000000 := by
  unfold sp at h
  split at h
  · exact absurd h (by decide)
  · split at h
    · exact absurd h (by decide)
    · omega
theorem none_same (x : Int) : ephemerislaw2_none.f 0 0 x x = some true := by unfold ephemerislaw2_none.f; rw [if_pos rfl]; rfl
theorem sq_lt {x y : Int} (hy : 0 ≤ y) (h : x * x < y * y) (hx : 0 ≤ x) : x < y := by
  rcases (show x < y ∨ y ≤ x by omega) with h1 | h1
  · exact h1
  · have := Int.mul_le_mul h1 h1 hy hx
    omega
theorem sq_le {x y : Int} (hx : 0 ≤ x) (h : x ≤ y) : x * x ≤ y * y := Int.mul_le_mul h h hx (by omega)
/-- The halving. -/
theorem root_loop {a : Int} (ha : 0 ≤ a) (ha2 : a ≤ 1000000000000000000) : ∀ (n : Nat) (lo hi : Int), 0 ≤ lo → lo ≤ hi → hi ≤ 2147483648 → hi - lo < 2 ^ n → lo * lo ≤ a → a < (hi + 1) * (hi + 1) →
    ∃ r, (∀ f, trig_root.l0 (f + n + 1) a lo hi = some r) ∧ 0 ≤ r ∧ r * r ≤ a ∧ a < (r + 1) * (r + 1) := by
  intro n
  induction n with
  | zero =>
    intro lo hi h0 h1 h2 h3 h4 h5
    have e : lo = hi := by
      have : hi - lo < 1 := h3
      omega
    subst e
    exact ⟨lo, fun f => by rw [trig_root.l0, if_neg (by omega)], h0, h4, h5⟩
  | succ n ih =>
    intro lo hi h0 h1 h2 h3 h4 h5
    by_cases c : lo < hi
    · have hm : wrap64 (Int.tdiv (wrap64 ((wrap64 (lo + hi)) + 1)) 2) = (lo + hi + 1) / 2 := by
        rw [w64 (x := lo + hi) (by omega) (by omega), w64 (x := lo + hi + 1) (by omega) (by omega), Int.tdiv_eq_ediv_of_nonneg (by omega), w64 (by omega) (by omega)]
      have p2 : (2 : Int) ^ (n + 1) = 2 * 2 ^ n := by rw [Int.pow_succ, Int.mul_comm]
      rw [p2] at h3
      generalize (2 : Int) ^ n = P at *
      have m1 : lo + 1 ≤ (lo + hi + 1) / 2 := by omega
      have m2 : (lo + hi + 1) / 2 ≤ hi := by omega
      have m3 : hi - (lo + hi + 1) / 2 < P := by omega
      have m4 : (lo + hi + 1) / 2 - 1 - lo < P := by omega
      generalize hmid : (lo + hi + 1) / 2 = m at *
      have hd : wrap64 (Int.tdiv a m) = a / m := by
        have d0 : 0 ≤ a / m := Int.ediv_nonneg ha (by omega)
        have d1 : a / m ≤ a := Int.ediv_le_self m ha
        rw [Int.tdiv_eq_ediv_of_nonneg ha, w64 (by omega) (by omega)]
      by_cases c2 : m * m ≤ a
      · obtain ⟨r, hr, r0⟩ := ih m hi (by omega) m2 h2 m3 c2 h5
        refine ⟨r, fun f => ?_, r0⟩
        rw [show f + (n + 1) + 1 = (f + n + 1) + 1 by omega, trig_root.l0, if_pos c, hm, hd, if_neg (by omega), if_pos ((Int.le_ediv_iff_mul_le (by omega)).2 c2)]
        exact hr f
      · obtain ⟨r, hr, r0⟩ := ih lo (m - 1) h0 (by omega) (by omega) m4 h4 (by rw [show m - 1 + 1 = m by omega]; omega)
        refine ⟨r, fun f => ?_, r0⟩
        rw [show f + (n + 1) + 1 = (f + n + 1) + 1 by omega, trig_root.l0, if_pos c, hm, hd, if_neg (by omega), if_neg (fun h => c2 ((Int.le_ediv_iff_mul_le (by omega)).1 h)), w64 (x := m - 1) (by omega) (by omega)]
        exact hr f
    · have e : lo = hi := by omega
      subst e
      exact ⟨lo, fun f => by rw [trig_root.l0, if_neg c], h0, h4, h5⟩
theorem root_tells {a : Int} (ha : 0 ≤ a) (ha2 : a ≤ 1000000000000000000) : ∃ r, (∀ f, trig_root.f (f + 33) a = some r) ∧ 0 ≤ r ∧ r * r ≤ a ∧ a < (r + 1) * (r + 1) :=
  root_loop ha ha2 32 0 2147483648 (by omega) (by omega) (by omega) (by decide) (by omega) (by omega)
theorem works_ev : Ev (fun k => ephemerislaw2_trigWorks.f k) true := Ev.of ephemerislaw2_trigWorks.mono (k := 120) (by decide +kernel)
/-- What the law asks. -/
theorem root_law {p q' lo hi : Int} (h1 : 0 ≤ p) (h2 : p ≤ q') (h3 : q' ≤ 1000000000) (h4 : p * p ≤ lo) (h5 : lo < (p + 1) * (p + 1)) (h6 : hi ≤ q' * q') (h7 : q' = 0 ∨ (q' - 1) * (q' - 1) < hi) :
    (if (0 : Int) = 0 then (if p ≥ 0 then (if p ≤ q' then (if q' ≤ 1000000000 then (if (wrap64 (p * p)) ≤ lo then (if (wrap64 ((wrap64 (p + 1)) * (wrap64 (p + 1)))) > lo then (if (wrap64 (q' * q')) ≥ hi then (if q' = 0 then (some true) else (some (decide ((wrap64 ((wrap64 (q' - 1)) * (wrap64 (q' - 1)))) < hi)))) else (some false)) else (some false)) else (some false)) else (some false)) else (some false)) else (some false)) else (some false)) = some true := by
  have s1 : p * p ≤ 1000000000 * 1000000000 := sq_le h1 (by omega)
  have s2 : q' * q' ≤ 1000000000 * 1000000000 := sq_le (by omega) h3
  have s3 : 0 ≤ p * p := Int.mul_nonneg h1 h1
  have s4 : 0 ≤ q' * q' := Int.mul_nonneg (by omega) (by omega)
  have s5 : (p + 1) * (p + 1) ≤ 1000000001 * 1000000001 := sq_le (by omega) (by omega)
  have s6 : 0 ≤ (p + 1) * (p + 1) := Int.mul_nonneg (by omega) (by omega)
  rw [if_pos rfl, if_pos h1, if_pos h2, if_pos h3, w64 (x := p * p) (by omega) (by omega), if_pos h4, w64 (x := p + 1) (by omega) (by omega), w64 (x := (p + 1) * (p + 1)) (by omega) (by omega), if_pos h5, w64 (x := q' * q') (by omega) (by omega), if_pos h6]
  by_cases c : q' = 0
  · rw [if_pos c]
  · have s7 : (q' - 1) * (q' - 1) ≤ 1000000000 * 1000000000 := sq_le (by omega) (by omega)
    have s8 : 0 ≤ (q' - 1) * (q' - 1) := Int.mul_nonneg (by omega) (by omega)
    rw [if_neg c, w64 (x := q' - 1) (by omega) (by omega), w64 (by omega) (by omega), decide_eq_true (by omega)]
theorem TrigRoots : PureX := by
  intro s h
  obtain ⟨K, hK⟩ := works_ev
  refine ⟨K + 33, ?_⟩
  have hw : ephemerislaw2_trigWorks.f (K + 33) = some true := hK (K + 33) (by omega)
  unfold ephemerislaw2_TrigRoots.f trig_Root.f
  rw [hw, Option.bind_some, if_pos rfl, show K + 33 = (K + 32) + 1 by omega, check_at, spanErr_at, Option.bind_some, show K + 32 + 1 = K + 33 by omega]
  by_cases c : sp s.f0 s.f1 = 0
  · obtain ⟨a1, a2, a3⟩ := sp_zero c
    rw [if_pos c]
    by_cases c1 : s.f0 < 0
    · rw [if_pos c1, Option.bind_some, Option.bind_some, if_pos c, if_pos c1, none_same]; rfl
    rw [if_neg c1]
    obtain ⟨p, hp, p0, p1, p2⟩ := root_tells (a := s.f0) (by omega) (by omega)
    obtain ⟨q, hq, q0, q1, q2⟩ := root_tells (a := s.f1) (by omega) (by omega)
    have pq : p < q + 1 := sq_lt (by omega) (by omega) p0
    have qm : q ≤ 1000000000 := by
      have := sq_lt (x := q) (y := 1000000001) (by omega) (by omega) q0
      omega
    have qs : q * q ≤ 1000000000 * 1000000000 := sq_le q0 qm
    have qn : 0 ≤ q * q := Int.mul_nonneg q0 q0
    rw [hp, Option.bind_some, hq, Option.bind_some, w64 (x := q * q) (by omega) (by omega)]
    by_cases c2 : q * q < s.f1
    · have qm2 : q < 1000000000 := sq_lt (by omega) (by omega) q0
      rw [if_pos c2, Option.bind_some, Option.bind_some, if_pos c, if_neg c1, w64 (x := q + 1) (by omega) (by omega)]
      exact root_law (p := p) (q' := q + 1) (lo := s.f0) (hi := s.f1) p0 (by omega) (by omega) p1 p2 (by omega) (Or.inr (by rw [show q + 1 - 1 = q by omega]; exact c2))
    · rw [if_neg c2, Option.bind_some, Option.bind_some, if_pos c, if_neg c1]
      refine root_law (p := p) (q' := q) (lo := s.f0) (hi := s.f1) p0 (by omega) qm p1 p2 (by omega) ?_
      by_cases c3 : q = 0
      · exact Or.inl c3
      · refine Or.inr ?_
        have : (q - 1) * (q - 1) = q * q - 2 * q + 1 := by
          rw [Int.sub_mul, Int.mul_sub]; omega
        omega
  · rw [if_neg c, Option.bind_some, Option.bind_some, if_neg c, none_same]; rfl
end Go.Proofs.Ytelcegpaakbppaa.Pure
