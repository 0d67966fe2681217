/- IntervalSigns: Sign of the program answers as the document says. -/
import Derived.Test.YtflnkfppkcjegaaOpnIntervalSigns
import Derived.Test.YtflnkfppkcjegaaBase
namespace Go.Proofs.Ytflnkfppkcjegaa.Pure
open Go.RowKit Go.Proofs.YtflnkfppkcjegaaW.PrintWords Go.Proofs.YtflnkfppkcjegaaW.PrintLast Go.Proofs.YtflnkfppkcjegaaW.PrintMore Go.Proofs.Ytflnkfppkcjegaa.Opn Go.Proofs.Ytflnkfppkcjegaa.PAll Go.Proofs.Ytflnkfppkcjegaa.Base
set_option linter.unusedVariables false
set_option linter.unusedSimpArgs false
/-- What an interval is found to be. -/
def sp (a b : Int) : Int := if a < -1000000000000000000 ∨ a > 1000000000000000000 ∨ b < -1000000000000000000 ∨ b > 1000000000000000000 then 3 else if b < a then 9 else 0
theorem spanErr_at (k : Nat) (a b : Int) : ephemerisref2_SpanErr.f (k + 1) a b = some (sp a b) := by
  unfold ephemerisref2_SpanErr.f sp
  by_cases c1 : a < -1000000000000000000
  · simp [c1, ephemerisref2_SpanErr.j0]
  by_cases c2 : a > 1000000000000000000
  · simp [c1, c2, ephemerisref2_SpanErr.j0]
  by_cases c3 : b < -1000000000000000000
  · simp [c1, c2, c3, ephemerisref2_SpanErr.j0]
  by_cases c4 : b > 1000000000000000000
  · simp [c1, c2, c3, c4, ephemerisref2_SpanErr.j0]
  by_cases c5 : b < a
  · simp [c1, c2, c3, c4, c5, ephemerisref2_SpanErr.j0]
  · simp [c1, c2, c3, c4, c5, ephemerisref2_SpanErr.j0]
theorem spanErr_ev (a b : Int) : Ev (fun k => ephemerisref2_SpanErr.f k a b) (sp a b) := ev_some 1 fun k => spanErr_at k a b
theorem out_at (a : Int) : interval_out.f a = some (decide (a < -1000000000000000000 ∨ a > 1000000000000000000)) := by
  unfold interval_out.f
  by_cases c : a < -1000000000000000000
  · simp [c]
  · simp [c]
theorem check_at (k : Nat) (a b : Int) : interval_Check.f (k + 1) a b = some (sp a b) := by
  unfold interval_Check.f sp
  rw [out_at, Option.bind_some, out_at]
  by_cases c1 : a < -1000000000000000000
  · simp [c1, interval_Check.j0]
  by_cases c2 : a > 1000000000000000000
  · simp [c1, c2, interval_Check.j0]
  by_cases c3 : b < -1000000000000000000
  · simp [c1, c2, c3, interval_Check.j0]
  by_cases c4 : b > 1000000000000000000
  · simp [c1, c2, c3, c4, interval_Check.j0]
  by_cases c5 : b < a
  · simp [c1, c2, c3, c4, c5, interval_Check.j0]
  · simp [c1, c2, c3, c4, c5, interval_Check.j0]
theorem sp_zero {a b : Int} (h : sp a b = 0) : -1000000000000000000 ≤ a ∧ a ≤ b ∧ b ≤ 1000000000000000000 := by
  unfold sp at h
  split at h
  · exact absurd h (by decide)
  · split at h
    · exact absurd h (by decide)
    · omega
theorem sp_ok {a b : Int} (h1 : -1000000000000000000 ≤ a) (h2 : a ≤ b) (h3 : b ≤ 1000000000000000000) : sp a b = 0 := by
  unfold sp
  rw [if_neg (by omega), if_neg (by omega)]
theorem sp_out {a b : Int} (h : a < -1000000000000000000 ∨ a > 1000000000000000000 ∨ b < -1000000000000000000 ∨ b > 1000000000000000000) : sp a b = 3 := by
  unfold sp
  rw [if_pos h]
def two (a b c d : Int) : Int := if sp a b = 0 then sp c d else sp a b
theorem works_ev : Ev (fun k => ephemerislaw2_intervalWorks.f k) true := Ev.of ephemerislaw2_intervalWorks.mono (k := 30) (by decide +kernel)
theorem IntervalSigns : PureX := by
  intro s h
  obtain ⟨K, hK⟩ := works_ev
  refine ⟨K + 1, ?_⟩
  have hw : ephemerislaw2_intervalWorks.f (K + 1) = some true := hK (K + 1) (by omega)
  unfold ephemerislaw2_IntervalSigns.f interval_Sign.f
  rw [hw, Option.bind_some, if_pos rfl, check_at, Option.bind_some]
  by_cases c : sp s.f0 s.f1 = 0
  · obtain ⟨a1, a2, a3⟩ := sp_zero c
    rw [if_pos c]
    by_cases c1 : s.f0 > 0
    · rw [if_pos c1, Option.bind_some, spanErr_at, Option.bind_some, if_pos c, if_pos c1]; rfl
    rw [if_neg c1]
    by_cases c2 : s.f1 < 0
    · rw [if_pos c2, Option.bind_some, spanErr_at, Option.bind_some, if_pos c, if_neg c1, if_pos c2]; rfl
    rw [if_neg c2]
    by_cases c3 : s.f0 = s.f1
    · rw [if_pos (show s.f0 = 0 by omega), if_pos (show s.f1 = 0 by omega), Option.bind_some, spanErr_at, Option.bind_some, if_pos c, if_neg c1, if_neg c2, if_pos c3]; rfl
    · have e : (if s.f0 = 0 then (if s.f1 = 0 then (some (0, 0)) else (some (0, 11))) else (some (0, 11)) : Option (Int × Int)) = some (0, 11) := by
        split
        · rw [if_neg (by omega)]
        · rfl
      rw [e, Option.bind_some, spanErr_at, Option.bind_some, if_pos c, if_neg c1, if_neg c2, if_neg c3]; rfl
  · rw [if_neg c, Option.bind_some, spanErr_at, Option.bind_some, if_neg c, if_pos rfl]; rfl
end Go.Proofs.Ytflnkfppkcjegaa.Pure
