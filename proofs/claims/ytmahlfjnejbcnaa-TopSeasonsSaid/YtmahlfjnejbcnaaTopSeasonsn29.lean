/- What an interval of numbers of the unit 10 ^ -9 tells of the reference's sine and cosine. -/
import Derived.Test.YtmahlfjnejbcnaaTopSeasonsn27
import Derived.Test.YtmahlfjnejbcnaaTopSeasonsn28
namespace Go.Proofs.Ytmahlfjnejbcnaa.Units
open Go.RowKit YtmahlfjnejbcnaaW.PrintWords YtmahlfjnejbcnaaW.PrintLast Opn PAll Base Turn Fix Oct OctT SinT RefT Circ Over Norm
set_option linter.unusedVariables false
set_option linter.unusedSimpArgs false
theorem sincos_ev2 {a : Int} (ha : -9223372036854775808 ≤ a) : ∃ s c : Int, Ev (fun k => ephemerisref2_SinCos.f k a) (s, c) ∧ (-1600000 ≤ (s : Rat) - u * S a ∧ (s : Rat) - u * S a ≤ 1600000) ∧ (-1600000 ≤ (c : Rat) - u * C a ∧ (c : Rat) - u * C a ≤ 1600000) ∧
  (-1152921504606849376 ≤ s ∧ s ≤ 1152921504606849376) ∧ (-1152921504606849376 ≤ c ∧ c ≤ 1152921504606849376) := by
 obtain ⟨s, c, rf, e1, e2, e3, e4⟩ := sincos_all ha
 exact ⟨s, c, ev_some 13 rf, e1, e2, e3, e4⟩
theorem over_lo_hi {L H lo hi : Int} (h : Holds L H lo hi) (h1 : lo ≤ hi) : L ≤ 1000000000 ∧ -1000000000 ≤ H := by
 obtain ⟨a, b⟩ := h.tell (lo * 1000000) (by omega) (by omega)
 obtain ⟨c, d⟩ := one_all (lo * 1000000)
 exact ⟨int_of_rat (Rat.le_trans a c), int_of_rat (Rat.le_trans d b)⟩
theorem cosover_lo_hi {L H lo hi : Int} (h : HoldsC L H lo hi) (h1 : lo ≤ hi) : L ≤ 1000000000 ∧ -1000000000 ≤ H := by
 obtain ⟨a, b⟩ := h.tell (lo * 1000000) (by omega) (by omega)
 obtain ⟨_, _, _, _⟩ := SC_bound (lo * 1000000)
 generalize C (lo * 1000000) = x at *
 constructor
 ·rcases Int.lt_or_le 1000000000 L with c | c
  ·have := cle (show (1000000001 : Int) ≤ L by omega)
   have e : ((1000000001 : Int) : Rat) = 1000000001 := rfl
   rw [e] at this; grind
  ·exact c
 ·rcases Int.lt_or_le H (-1000000000) with c | c
  ·have := cle (show H ≤ (-1000000001 : Int) by omega)
   have e : ((-1000000001 : Int) : Rat) = -1000000001 := rfl
   rw [e] at this; grind
  ·exact c
end Go.Proofs.Ytmahlfjnejbcnaa.Units
