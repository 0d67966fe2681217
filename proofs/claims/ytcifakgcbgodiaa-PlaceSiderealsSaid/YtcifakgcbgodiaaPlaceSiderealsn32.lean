/- Scale, and sums of terms: the program's intervals hold the reference's sums. -/
import Derived.Test.YtcifakgcbgodiaaPlaceSiderealsn2
import Derived.Test.YtcifakgcbgodiaaPlaceSiderealsn3
import Derived.Test.YtcifakgcbgodiaaPlaceSiderealsn5
import Derived.Test.YtcifakgcbgodiaaPlaceSiderealsn7
import Derived.Test.YtcifakgcbgodiaaPlaceSiderealsn9
import Derived.Test.YtcifakgcbgodiaaPlaceSiderealsn8
import Derived.Test.YtcifakgcbgodiaaPlaceSiderealsn30
import Derived.Test.YtcifakgcbgodiaaPlaceSiderealsn31
namespace Go.Proofs.Ytcifakgcbgodiaa.Vals
open Go.RowKit Go.Proofs.YtcifakgcbgodiaaW.PrintWords Go.Proofs.YtcifakgcbgodiaaW.PrintLast Go.Proofs.YtcifakgcbgodiaaW.PrintMore Go.Proofs.Ytcifakgcbgodiaa.Opn Go.Proofs.Ytcifakgcbgodiaa.PAll Go.Proofs.Ytcifakgcbgodiaa.Base Go.Proofs.Ytcifakgcbgodiaa.Turn Go.Proofs.Ytcifakgcbgodiaa.Fix Go.Proofs.Ytcifakgcbgodiaa.OctT Go.Proofs.Ytcifakgcbgodiaa.SinT Go.Proofs.Ytcifakgcbgodiaa.RefT Go.Proofs.Ytcifakgcbgodiaa.Circ Go.Proofs.Ytcifakgcbgodiaa.Over Go.Proofs.Ytcifakgcbgodiaa.Args Go.Proofs.Ytcifakgcbgodiaa.SumsT
set_option linter.unusedVariables false
set_option linter.unusedSimpArgs false
/-- An instant. -/
def it (t : Int) : Int := if -345600000000000 ≤ t ∧ t < 345600086400000 then 0 else 3
theorem valid_at (t : Int) : series_Valid.f t = some (decide (-345600000000000 ≤ t ∧ t < 345600086400000)) := by
  unfold series_Valid.f
  by_cases c : t ≥ -345600000000000
  · rw [if_pos c]
    by_cases d : t < 345600086400000
    · rw [decide_eq_true d, decide_eq_true ⟨c, d⟩]
    · rw [decide_eq_false d, decide_eq_false (by omega)]
  · rw [if_neg c, decide_eq_false (by omega)]
theorem instErr_at (t : Int) : ephemerisref2_InstantErr.f t = some (it t) := by
  unfold ephemerisref2_InstantErr.f it
  by_cases c : t < -345600000000000
  · rw [if_pos c, if_neg (by omega)]
  · rw [if_neg c]
    by_cases d : t ≥ 345600086400000
    · rw [if_pos d, if_neg (by omega)]
    · rw [if_neg d, if_pos (by omega)]
theorem it_zero {t : Int} (h : it t = 0) : -345600000000000 ≤ t ∧ t < 345600086400000 := by
  unfold it at h
  split at h
  · assumption
  · cases h
/-- What a sum and an instant are found to be. -/
def st2 (m b : Int) (l : List S80) (d t : Int) : Int := if se m b l d = 0 then it t else se m b l d
theorem check2_ev (m b : Int) (l : List S80) (d t : Int) : Ev (fun k => series_check.f k m b l d t) (st2 m b l d t) := by
  unfold series_check.f st2
  refine ev_bind (check_ev m b l d) ?_
  by_cases c : se m b l d = 0
  · simp only [if_pos c]
    refine ev_some 0 fun k => ?_
    rw [valid_at, Option.bind_some]
    unfold it
    by_cases e : -345600000000000 ≤ t ∧ t < 345600086400000
    · rw [decide_eq_true e, if_pos rfl, if_pos e]
    · rw [decide_eq_false e, if_neg (by simp), if_neg e]
  · simp only [if_neg c]
    exact ev_some 0 fun k => rfl
theorem angle_bad {m b d t : Int} {l : List S80} (h : st2 m b l d t ≠ 0) : Ev (fun k => series_Angle.f k m b l d t) (0, 0, st2 m b l d t) := by
  unfold series_Angle.f
  refine ev_bind (check2_ev m b l d t) ?_
  simp only [if_neg h]
  exact ev_some 0 fun k => rfl
theorem sreduced_at {a b : Int} (h1 : -1000000000000000 ≤ a) (h2 : a ≤ 1000000000000000) (h3 : -1000000000000000 ≤ b) (h4 : b ≤ 1000000000000000) : series_Reduced.f a b = some (a % 1000000000, b - a / 1000000000 * 1000000000) := by
  unfold series_Reduced.f
  rw [floor_pos (by omega) (by omega), Option.bind_some, w64 (x := a / 1000000000 * 1000000000) (by omega) (by omega), w64 (x := a - a / 1000000000 * 1000000000) (by omega) (by omega), w64 (x := b - a / 1000000000 * 1000000000) (by omega) (by omega)]
  congr 2
  omega
end Go.Proofs.Ytcifakgcbgodiaa.Vals
