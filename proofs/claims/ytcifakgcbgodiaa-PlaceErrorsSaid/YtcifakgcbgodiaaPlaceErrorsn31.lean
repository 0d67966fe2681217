/- What an interval of numbers of the unit 10 ^ -9 tells of the reference's sine and cosine. -/
import Derived.Test.YtcifakgcbgodiaaPlaceErrorsn17
import Derived.Test.YtcifakgcbgodiaaPlaceErrorsn2
import Derived.Test.YtcifakgcbgodiaaPlaceErrorsn29
import Derived.Test.YtcifakgcbgodiaaPlaceErrorsn30
namespace Go.Proofs.Ytcifakgcbgodiaa.Units
open Go.RowKit Go.Proofs.YtcifakgcbgodiaaW.PrintWords Go.Proofs.YtcifakgcbgodiaaW.PrintLast Go.Proofs.Ytcifakgcbgodiaa.Opn Go.Proofs.Ytcifakgcbgodiaa.PAll Go.Proofs.Ytcifakgcbgodiaa.Base Go.Proofs.Ytcifakgcbgodiaa.Turn Go.Proofs.Ytcifakgcbgodiaa.Fix Go.Proofs.Ytcifakgcbgodiaa.Oct Go.Proofs.Ytcifakgcbgodiaa.OctT Go.Proofs.Ytcifakgcbgodiaa.SinT Go.Proofs.Ytcifakgcbgodiaa.RefT Go.Proofs.Ytcifakgcbgodiaa.Circ Go.Proofs.Ytcifakgcbgodiaa.Over Go.Proofs.Ytcifakgcbgodiaa.Norm
set_option linter.unusedVariables false
set_option linter.unusedSimpArgs false
theorem spanErr_at (k : Nat) (a b : Int) : ephemerisref2_SpanErr.f (k + 1) a b = some (sp a b) := by
  unfold ephemerisref2_SpanErr.f sp
  by_cases c1 : a < -1000000000000000000
  · simp [c1, ephemerisref2_SpanErr.j0]
  by_cases c2 : a > 1000000000000000000
  · simp [c1, c2, ephemerisref2_SpanErr.j0]
  by_cases c3 : b < -1000000000000000000
  · simp [c1, c2, c3, ephemerisref2_SpanErr.j0]
  by_cases c4 : b > 1000000000000000000
  · simp [c1, c2, c3, c4, ephemerisref2_SpanErr.j0]
  by_cases c5 : b < a
  · simp [c1, c2, c3, c4, c5, ephemerisref2_SpanErr.j0]
  · simp [c1, c2, c3, c4, c5, ephemerisref2_SpanErr.j0]
theorem spanErr_ev (a b : Int) : Ev (fun k => ephemerisref2_SpanErr.f k a b) (sp a b) := ev_some 1 fun k => spanErr_at k a b
theorem beyond_no {a : Int} (h1 : -1000000000 ≤ a) (h2 : a ≤ 1000000000) : ephemerislaw2_beyond.f a 1000000000 = some false := by
  unfold ephemerislaw2_beyond.f
  rw [w64 (x := -1000000000) (by omega) (by omega), if_neg (by omega), show decide (a > 1000000000) = false from decide_eq_false (by omega)]
theorem over_lo_hi {L H lo hi : Int} (h : Holds L H lo hi) (h1 : lo ≤ hi) : L ≤ 1000000000 ∧ -1000000000 ≤ H := by
  obtain ⟨a, b⟩ := h.tell (lo * 1000000) (by omega) (by omega)
  obtain ⟨c, d⟩ := one_all (lo * 1000000)
  exact ⟨int_of_rat (Rat.le_trans a c), int_of_rat (Rat.le_trans d b)⟩
theorem cosover_lo_hi {L H lo hi : Int} (h : HoldsC L H lo hi) (h1 : lo ≤ hi) : L ≤ 1000000000 ∧ -1000000000 ≤ H := by
  obtain ⟨a, b⟩ := h.tell (lo * 1000000) (by omega) (by omega)
  obtain ⟨_, _, _, _⟩ := SC_bound (lo * 1000000)
  generalize C (lo * 1000000) = x at *
  constructor
  · rcases Int.lt_or_le 1000000000 L with c | c
    · have := cle (show (1000000001 : Int) ≤ L by omega)
      have e : ((1000000001 : Int) : Rat) = 1000000001 := rfl
      rw [e] at this; grind
    · exact c
  · rcases Int.lt_or_le H (-1000000000) with c | c
    · have := cle (show H ≤ (-1000000001 : Int) by omega)
      have e : ((-1000000001 : Int) : Rat) = -1000000001 := rfl
      rw [e] at this; grind
    · exact c
end Go.Proofs.Ytcifakgcbgodiaa.Units
