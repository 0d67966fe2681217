/- octant against the rotation: sine and cosine, each within 84 units. -/
import Derived.Test.YtelcegpaakbppaaSeriesSlopesn19
namespace Go.Proofs.Ytelcegpaakbppaa.OctT
open Go.RowKit Go.Proofs.YtelcegpaakbppaaW.PrintWords Go.Proofs.YtelcegpaakbppaaW.PrintLast Go.Proofs.Ytelcegpaakbppaa.Opn Go.Proofs.Ytelcegpaakbppaa.PAll Go.Proofs.Ytelcegpaakbppaa.Base Go.Proofs.Ytelcegpaakbppaa.Turn Go.Proofs.Ytelcegpaakbppaa.Fix
set_option linter.unusedVariables false
set_option linter.unusedSimpArgs false
/-- The unit's number. -/
def u : Rat := 1152921504606846976
theorem u_eq : u = 1152921504606846976 := rfl
theorem cle {a b : Int} (h : a ≤ b) : (a : Rat) ≤ (b : Rat) := by exact_mod_cast h
theorem clt {a b : Int} (h : a < b) : (a : Rat) < (b : Rat) := by exact_mod_cast h
theorem div_bound {D d z b : Rat} (h1 : d ≤ D) (h0 : 0 ≤ d) (hb : 0 ≤ b) (h : D * z ≤ b) : d * z ≤ b := by
  rcases (Rat.le_total : 0 ≤ z ∨ z ≤ 0) with hz | hz
  · have := Rat.mul_le_mul_of_nonneg_left h1 hz
    grind
  · have := Rat.mul_le_mul_of_nonneg_left hz h0
    grind
theorem abs_mul {a b A B : Rat} (h1 : -A ≤ a) (h2 : a ≤ A) (h3 : -B ≤ b) (h4 : b ≤ B) : -(A * B) ≤ a * b ∧ a * b ≤ A * B := by
  have k1 := Rat.mul_nonneg (show 0 ≤ A - a by grind) (show 0 ≤ B - b by grind)
  have k2 := Rat.mul_nonneg (show 0 ≤ A + a by grind) (show 0 ≤ B + b by grind)
  have k3 := Rat.mul_nonneg (show 0 ≤ A - a by grind) (show 0 ≤ B + b by grind)
  have k4 := Rat.mul_nonneg (show 0 ≤ A + a by grind) (show 0 ≤ B - b by grind)
  constructor <;> grind
/-- The signs of Taylor's sums. -/
def sgn (k : Nat) : Rat := if k % 2 = 1 then -1 else 1
theorem ca_two : ∀ k : Nat, ca (2 * k) = (sgn k, 0) ∧ ca (2 * k + 1) = (0, sgn k)
  | 0 => by
    have : sgn 0 = 1 := rfl
    rw [this]
    constructor
    · rfl
    · show (-(0 : Rat), (1 : Rat)) = (0, 1)
      rw [show -(0 : Rat) = 0 by grind]
  | k + 1 => by
    obtain ⟨h1, h2⟩ := ca_two k
    have hs : sgn (k + 1) = -sgn k := by
      unfold sgn
      rcases Nat.mod_two_eq_zero_or_one k with h | h
      · rw [if_pos (show (k + 1) % 2 = 1 by omega), if_neg (show ¬ k % 2 = 1 by omega)]
      · rw [if_neg (show ¬ (k + 1) % 2 = 1 by omega), if_pos h]; grind
    have e1 : ca (2 * (k + 1)) = (-(ca (2 * k + 1)).2, (ca (2 * k + 1)).1) := rfl
    have e2 : ca (2 * (k + 1) + 1) = (-(ca (2 * (k + 1))).2, (ca (2 * (k + 1))).1) := rfl
    rw [h2] at e1
    rw [e1] at e2
    constructor
    · rw [e1, hs]
    · rw [e2, hs]; show (-(0 : Rat), -sgn k) = (0, -sgn k); rw [show -(0 : Rat) = 0 by grind]
section
end
end Go.Proofs.Ytelcegpaakbppaa.OctT
