/- IntervalMeets: Meet and Hull of the program answer as the document says. -/
import Derived.Test.YtflnkfppkcjegaaIntervalMeetsn12
import Derived.Test.YtflnkfppkcjegaaIntervalMeetsn13
namespace Go.Proofs.Ytflnkfppkcjegaa.Pure
open Go.RowKit Go.Proofs.YtflnkfppkcjegaaW.PrintWords Go.Proofs.YtflnkfppkcjegaaW.PrintLast Go.Proofs.YtflnkfppkcjegaaW.PrintMore Go.Proofs.Ytflnkfppkcjegaa.Opn Go.Proofs.Ytflnkfppkcjegaa.PAll Go.Proofs.Ytflnkfppkcjegaa.Base
set_option linter.unusedVariables false
set_option linter.unusedSimpArgs false
/-- What an interval is found to be. -/
def sp (a b : Int) : Int := if a < -1000000000000000000 ∨ a > 1000000000000000000 ∨ b < -1000000000000000000 ∨ b > 1000000000000000000 then 3 else if b < a then 9 else 0
theorem spanErr_at (k : Nat) (a b : Int) : ephemerisref2_SpanErr.f (k + 1) a b = some (sp a b) := by
  unfold ephemerisref2_SpanErr.f sp
  by_cases c1 : a < -1000000000000000000
  · simp [c1, ephemerisref2_SpanErr.j0]
  by_cases c2 : a > 1000000000000000000
  · simp [c1, c2, ephemerisref2_SpanErr.j0]
  by_cases c3 : b < -1000000000000000000
  · simp [c1, c2, c3, ephemerisref2_SpanErr.j0]
  by_cases c4 : b > 1000000000000000000
  · simp [c1, c2, c3, c4, ephemerisref2_SpanErr.j0]
  by_cases c5 : b < a
  · simp [c1, c2, c3, c4, c5, ephemerisref2_SpanErr.j0]
  · simp [c1, c2, c3, c4, c5, ephemerisref2_SpanErr.j0]
theorem out_at (a : Int) : interval_out.f a = some (decide (a < -1000000000000000000 ∨ a > 1000000000000000000)) := by
  unfold interval_out.f
  by_cases c : a < -1000000000000000000
  · simp [c]
  · simp [c]
theorem check_at (k : Nat) (a b : Int) : interval_Check.f (k + 1) a b = some (sp a b) := by
  unfold interval_Check.f sp
  rw [out_at, Option.bind_some, out_at]
  by_cases c1 : a < -1000000000000000000
  · simp [c1, interval_Check.j0]
  by_cases c2 : a > 1000000000000000000
  · simp [c1, c2, interval_Check.j0]
  by_cases c3 : b < -1000000000000000000
  · simp [c1, c2, c3, interval_Check.j0]
  by_cases c4 : b > 1000000000000000000
  · simp [c1, c2, c3, c4, interval_Check.j0]
  by_cases c5 : b < a
  · simp [c1, c2, c3, c4, c5, interval_Check.j0]
  · simp [c1, c2, c3, c4, c5, interval_Check.j0]
def two (a b c d : Int) : Int := if sp a b = 0 then sp c d else sp a b
theorem works_ev : Ev (fun k => ephemerislaw2_intervalWorks.f k) true := Ev.of ephemerislaw2_intervalWorks.mono (k := 30) (by decide +kernel)
theorem none_same (x : Int) : ephemerislaw2_none.f 0 0 x x = some true := by unfold ephemerislaw2_none.f; rw [if_pos rfl]; rfl
theorem both_at (k : Nat) (a b c d : Int) : interval_both.f (k + 1) a b c d = some (two a b c d) := by
  unfold interval_both.f two
  rw [check_at, Option.bind_some, check_at]
  split <;> rfl
theorem twoErr_at (k : Nat) (a b c d : Int) : ephemerisref2_TwoErr.f (k + 1) a b c d = some (two a b c d) := by
  unfold ephemerisref2_TwoErr.f two
  rw [spanErr_at, Option.bind_some, spanErr_at]
  split <;> rfl
theorem last_part (k : Nat) (p q : Int) : ephemerislaw2_IntervalMeets.j2 (k + 1) (if p > q then ((0 : Int), (0 : Int), (6 : Int)) else (p, q, 0)).2.2 p q false (if p > q then ((0 : Int), (0 : Int), (6 : Int)) else (p, q, 0)).1 (if p > q then ((0 : Int), (0 : Int), (6 : Int)) else (p, q, 0)).2.1 = some true := by
  rw [ephemerislaw2_IntervalMeets.j2, if_neg (by decide)]
  by_cases c : p > q
  · simp only [if_pos c]
    rw [none_same]; rfl
  · simp [c]
theorem hull_part (k : Nat) (x p q u v y z : Int) : ephemerislaw2_IntervalMeets.j1 (k + 2) x 0 p q u v y z u v = ephemerislaw2_IntervalMeets.j2 (k + 1) x p q false y z := by
  rw [ephemerislaw2_IntervalMeets.j1, if_pos rfl, if_pos rfl]
  simp
theorem meet_if {a b c d : Int} : (if mx a c > mn b d then (some (0, 0, 6)) else (some (mx a c, mn b d, 0)) : Option (Int × Int × Int)) = some (if mx a c > mn b d then (0, 0, 6) else (mx a c, mn b d, 0)) := by
  split <;> rfl
theorem IntervalMeets : PureX := by
  intro s t h h'
  obtain ⟨K, hK⟩ := works_ev
  refine ⟨K + 3, ?_⟩
  have hw : ephemerislaw2_intervalWorks.f (K + 3) = some true := hK (K + 3) (by omega)
  unfold ephemerislaw2_IntervalMeets.f interval_Meet.f interval_Hull.f
  rw [hw, Option.bind_some, if_pos rfl, both_at, Option.bind_some, twoErr_at, Option.bind_some]
  by_cases c : two s.f0 s.f1 t.f0 t.f1 = 0
  · rw [if_pos c, if_pos c, meet_if, Option.bind_some, Option.bind_some, Option.bind_some, if_pos c]
    by_cases c1 : t.f0 > s.f0
    · rw [if_pos c1, ephemerislaw2_IntervalMeets.j0]
      have e1 : mx s.f0 t.f0 = t.f0 := by unfold mx; rw [if_pos c1]
      have e2 : mn s.f0 t.f0 = s.f0 := by unfold mn; rw [if_neg (by omega)]
      by_cases c2 : t.f1 < s.f1
      · have e3 : mn s.f1 t.f1 = t.f1 := by unfold mn; rw [if_pos c2]
        have e4 : mx s.f1 t.f1 = s.f1 := by unfold mx; rw [if_neg (by omega)]
        rw [if_pos c2, e1, e2, e3, e4]
        exact (hull_part K ..).trans (last_part K _ _)
      · have e3 : mn s.f1 t.f1 = s.f1 := by unfold mn; rw [if_neg c2]
        have e4 : mx s.f1 t.f1 = t.f1 := by unfold mx; split <;> omega
        rw [if_neg c2, e1, e2, e3, e4]
        exact (hull_part K ..).trans (last_part K _ _)
    · rw [if_neg c1, ephemerislaw2_IntervalMeets.j0]
      have e1 : mx s.f0 t.f0 = s.f0 := by unfold mx; rw [if_neg (by omega)]
      have e2 : mn s.f0 t.f0 = t.f0 := by unfold mn; split <;> omega
      by_cases c2 : t.f1 < s.f1
      · have e3 : mn s.f1 t.f1 = t.f1 := by unfold mn; rw [if_pos c2]
        have e4 : mx s.f1 t.f1 = s.f1 := by unfold mx; rw [if_neg (by omega)]
        rw [if_pos c2, e1, e2, e3, e4]
        exact (hull_part K ..).trans (last_part K _ _)
      · have e3 : mn s.f1 t.f1 = s.f1 := by unfold mn; rw [if_neg c2]
        have e4 : mx s.f1 t.f1 = t.f1 := by unfold mx; split <;> omega
        rw [if_neg c2, e1, e2, e3, e4]
        exact (hull_part K ..).trans (last_part K _ _)
  · rw [if_neg c, Option.bind_some, if_neg c, Option.bind_some, Option.bind_some, if_neg c, none_same, Option.bind_some, if_pos rfl, Option.bind_some]
end Go.Proofs.Ytflnkfppkcjegaa.Pure
