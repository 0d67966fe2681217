/- IntervalAdds: Add and Sub of the program answer as the document says. -/
import Derived.Test.YtflnkfppkcjegaaOpnIntervalAdds
import Derived.Test.YtflnkfppkcjegaaBase
namespace Go.Proofs.Ytflnkfppkcjegaa.Pure
open Go.RowKit Go.Proofs.YtflnkfppkcjegaaW.PrintWords Go.Proofs.YtflnkfppkcjegaaW.PrintLast Go.Proofs.YtflnkfppkcjegaaW.PrintMore Go.Proofs.Ytflnkfppkcjegaa.Opn Go.Proofs.Ytflnkfppkcjegaa.PAll Go.Proofs.Ytflnkfppkcjegaa.Base
set_option linter.unusedVariables false
set_option linter.unusedSimpArgs false
/-- What an interval is found to be. -/
def sp (a b : Int) : Int := if a < -1000000000000000000 ∨ a > 1000000000000000000 ∨ b < -1000000000000000000 ∨ b > 1000000000000000000 then 3 else if b < a then 9 else 0
theorem spanErr_at (k : Nat) (a b : Int) : ephemerisref2_SpanErr.f (k + 1) a b = some (sp a b) := by
  unfold ephemerisref2_SpanErr.f sp
  by_cases c1 : a < -1000000000000000000
  · simp [c1, ephemerisref2_SpanErr.j0]
  by_cases c2 : a > 1000000000000000000
  · simp [c1, c2, ephemerisref2_SpanErr.j0]
  by_cases c3 : b < -1000000000000000000
  · simp [c1, c2, c3, ephemerisref2_SpanErr.j0]
  by_cases c4 : b > 1000000000000000000
  · simp [c1, c2, c3, c4, ephemerisref2_SpanErr.j0]
  by_cases c5 : b < a
  · simp [c1, c2, c3, c4, c5, ephemerisref2_SpanErr.j0]
  · simp [c1, c2, c3, c4, c5, ephemerisref2_SpanErr.j0]
theorem spanErr_ev (a b : Int) : Ev (fun k => ephemerisref2_SpanErr.f k a b) (sp a b) := ev_some 1 fun k => spanErr_at k a b
theorem out_at (a : Int) : interval_out.f a = some (decide (a < -1000000000000000000 ∨ a > 1000000000000000000)) := by
  unfold interval_out.f
  by_cases c : a < -1000000000000000000
  · simp [c]
  · simp [c]
theorem check_at (k : Nat) (a b : Int) : interval_Check.f (k + 1) a b = some (sp a b) := by
  unfold interval_Check.f sp
  rw [out_at, Option.bind_some, out_at]
  by_cases c1 : a < -1000000000000000000
  · simp [c1, interval_Check.j0]
  by_cases c2 : a > 1000000000000000000
  · simp [c1, c2, interval_Check.j0]
  by_cases c3 : b < -1000000000000000000
  · simp [c1, c2, c3, interval_Check.j0]
  by_cases c4 : b > 1000000000000000000
  · simp [c1, c2, c3, c4, interval_Check.j0]
  by_cases c5 : b < a
  · simp [c1, c2, c3, c4, c5, interval_Check.j0]
  · simp [c1, c2, c3, c4, c5, interval_Check.j0]
theorem sp_zero {a b : Int} (h : sp a b = 0) : -1000000000000000000 ≤ a ∧ a ≤ b ∧ b ≤ 1000000000000000000 := by
  unfold sp at h
  split at h
  · exact absurd h (by decide)
  · split at h
    · exact absurd h (by decide)
    · omega
theorem sp_ok {a b : Int} (h1 : -1000000000000000000 ≤ a) (h2 : a ≤ b) (h3 : b ≤ 1000000000000000000) : sp a b = 0 := by
  unfold sp
  rw [if_neg (by omega), if_neg (by omega)]
theorem sp_out {a b : Int} (h : a < -1000000000000000000 ∨ a > 1000000000000000000 ∨ b < -1000000000000000000 ∨ b > 1000000000000000000) : sp a b = 3 := by
  unfold sp
  rw [if_pos h]
def two (a b c d : Int) : Int := if sp a b = 0 then sp c d else sp a b
theorem works_ev : Ev (fun k => ephemerislaw2_intervalWorks.f k) true := Ev.of ephemerislaw2_intervalWorks.mono (k := 30) (by decide +kernel)
theorem none_same (x : Int) : ephemerislaw2_none.f 0 0 x x = some true := by unfold ephemerislaw2_none.f; rw [if_pos rfl]; rfl
theorem both_at (k : Nat) (a b c d : Int) : interval_both.f (k + 1) a b c d = some (two a b c d) := by
  unfold interval_both.f two
  rw [check_at, Option.bind_some, check_at]
  split <;> rfl
theorem twoErr_at (k : Nat) (a b c d : Int) : ephemerisref2_TwoErr.f (k + 1) a b c d = some (two a b c d) := by
  unfold ephemerisref2_TwoErr.f two
  rw [spanErr_at, Option.bind_some, spanErr_at]
  split <;> rfl
theorem fit_at {a b : Int} (h : a ≤ b) : interval_fit.f a b = some (if sp a b = 0 then (a, b, 0) else (0, 0, 14)) := by
  unfold interval_fit.f
  rw [out_at, Option.bind_some, out_at, Option.bind_some]
  by_cases c1 : a < -1000000000000000000 ∨ a > 1000000000000000000
  · rw [decide_eq_true c1, if_pos rfl, sp_out (by omega), if_neg (by decide)]
  rw [decide_eq_false c1, if_neg (by decide)]
  by_cases c2 : b < -1000000000000000000 ∨ b > 1000000000000000000
  · rw [decide_eq_true c2, if_pos rfl, sp_out (by omega), if_neg (by decide)]
  · rw [decide_eq_false c2, if_neg (by decide), sp_ok (by omega) h (by omega), if_pos rfl]
theorem sub_part (k : Nat) {a b : Int} : ephemerislaw2_IntervalAdds.j0 (k + 2) (if sp a b = 0 then (a, b, (0 : Int)) else (0, 0, 14)).2.2 (if sp a b = 0 then (a, b, (0 : Int)) else (0, 0, 14)).1 (if sp a b = 0 then (a, b, (0 : Int)) else (0, 0, 14)).2.1 a b = some true := by
  rw [ephemerislaw2_IntervalAdds.j0, spanErr_at, Option.bind_some]
  by_cases c : sp a b = 0
  · simp [c]
  · simp only [if_neg c]
    rw [none_same]; rfl
theorem IntervalAdds : PureX := by
  intro s t h h'
  obtain ⟨K, hK⟩ := works_ev
  refine ⟨K + 2, ?_⟩
  have hw : ephemerislaw2_intervalWorks.f (K + 2) = some true := hK (K + 2) (by omega)
  unfold ephemerislaw2_IntervalAdds.f interval_Add.f interval_Sub.f
  rw [hw, Option.bind_some, if_pos rfl, both_at, Option.bind_some, twoErr_at, Option.bind_some]
  by_cases c : two s.f0 s.f1 t.f0 t.f1 = 0
  · have c' := c
    unfold two at c'
    have d1 : sp s.f0 s.f1 = 0 := by
      by_cases z : sp s.f0 s.f1 = 0
      · exact z
      · rw [if_neg z] at c'; exact absurd c' z
    rw [if_pos d1] at c'
    obtain ⟨a1, a2, a3⟩ := sp_zero d1
    obtain ⟨b1, b2, b3⟩ := sp_zero c'
    rw [if_pos c, if_pos c, w64 (x := s.f0 + t.f0) (by omega) (by omega), w64 (x := s.f1 + t.f1) (by omega) (by omega), w64 (x := s.f0 - t.f1) (by omega) (by omega), w64 (x := s.f1 - t.f0) (by omega) (by omega), fit_at (a := s.f0 + t.f0) (by omega), fit_at (a := s.f0 - t.f1) (by omega), Option.bind_some, Option.bind_some, Option.bind_some, Option.bind_some, Option.bind_some, if_pos c, spanErr_at, Option.bind_some]
    by_cases e : sp (s.f0 + t.f0) (s.f1 + t.f1) = 0
    · rw [if_pos e, if_pos e, if_pos rfl, if_neg (by simp)]
      exact sub_part K
    · rw [if_neg e, if_neg e, none_same, Option.bind_some, if_pos rfl]
      exact sub_part K
  · rw [if_neg c, Option.bind_some, if_neg c, Option.bind_some, Option.bind_some, if_neg c, none_same, Option.bind_some, if_pos rfl, Option.bind_some]
end Go.Proofs.Ytflnkfppkcjegaa.Pure
