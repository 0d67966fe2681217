/- A point of a box lies in the arc that holds the box's corners. -/
import Derived.Test.YtmahlfjnejbcnaaTopSeasonsn44
namespace Go.Proofs.Ytmahlfjnejbcnaa.Box
open Go.RowKit YtmahlfjnejbcnaaW.PrintWords YtmahlfjnejbcnaaW.PrintLast YtmahlfjnejbcnaaW.PrintMore Base Circ Cone Arcs ArcT
set_option linter.unusedVariables false
set_option linter.unusedSimpArgs false
theorem mul_min {p y y0 y1 : Rat} (h0 : y0 ≤ y) (h1 : y ≤ y1) : p * y0 ≤ p * y ∨ p * y1 ≤ p * y := by
 rcases (Rat.le_total : (0 : Rat) ≤ p ∨ p ≤ 0) with n | n
 ·exact Or.inl (Rat.mul_le_mul_of_nonneg_left h0 n)
 ·have k := Rat.mul_le_mul_of_nonneg_left h1 (show 0 ≤ -p by grind)
  exact Or.inr (by grind)
theorem aff_min {p q y x y0 y1 x0 x1 T : Rat} (h0 : y0 ≤ y) (h1 : y ≤ y1) (g0 : x0 ≤ x) (g1 : x ≤ x1) (c00 : T ≤ p * y0 + q * x0) (c01 : T ≤ p * y0 + q * x1) (c10 : T ≤ p * y1 + q * x0) (c11 : T ≤ p * y1 + q * x1) : T ≤ p * y + q * x := by
 rcases mul_min (p := p) h0 h1 with a | a <;> rcases mul_min (p := q) g0 g1 with b | b <;> grind
end Go.Proofs.Ytmahlfjnejbcnaa.Box
