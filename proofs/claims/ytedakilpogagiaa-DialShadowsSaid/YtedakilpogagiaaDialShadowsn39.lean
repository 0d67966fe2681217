/- A point of a box lies in the arc that holds the box's corners. -/
import Derived.Test.YtedakilpogagiaaDialShadowsn38
namespace Go.Proofs.Ytedakilpogagiaa.Box
open Go.RowKit YtedakilpogagiaaW.PrintWords YtedakilpogagiaaW.PrintLast YtedakilpogagiaaW.PrintMore Base Circ Cone Arcs ArcT
set_option linter.unusedVariables false
set_option linter.unusedSimpArgs false
theorem mul_min {p y y0 y1 : Rat} (h0 : y0 ≤ y) (h1 : y ≤ y1) : p * y0 ≤ p * y ∨ p * y1 ≤ p * y := by
 rcases (Rat.le_total : (0 : Rat) ≤ p ∨ p ≤ 0) with n | n
 ·exact Or.inl (Rat.mul_le_mul_of_nonneg_left h0 n)
 ·have k := Rat.mul_le_mul_of_nonneg_left h1 (show 0 ≤ -p by grind)
  exact Or.inr (by grind)
theorem aff_min {p q y x y0 y1 x0 x1 T : Rat} (h0 : y0 ≤ y) (h1 : y ≤ y1) (g0 : x0 ≤ x) (g1 : x ≤ x1) (c00 : T ≤ p * y0 + q * x0) (c01 : T ≤ p * y0 + q * x1) (c10 : T ≤ p * y1 + q * x0) (c11 : T ≤ p * y1 + q * x1) : T ≤ p * y + q * x := by
 rcases mul_min (p := p) h0 h1 with a | a <;> rcases mul_min (p := q) g0 g1 with b | b <;> grind
theorem at_in {l lo hi y x : Int} {M : Rat} (A : At l y x) (y1 : -M ≤ (y : Rat)) (y2 : (y : Rat) ≤ M) (x1 : -M ≤ (x : Rat)) (x2 : (x : Rat) ≤ M) (hl : lo ≤ l) (hh : l + 3 ≤ hi) (hw : hi - lo ≤ 500000000) :
  -(1 / 10000000000 * M) ≤ cr (lo * 1000000) y x ∧ cr (hi * 1000000) y x ≤ 1 / 10000000000 * M ∧ -(1 / 1000000000 * M) ≤ dt (lo * 1000000) y x + dt (hi * 1000000) y x := by
 obtain ⟨N, b, n1, n2, n3, n4, n0, hN⟩ := A
 have k : (N : Rat) ≤ M := by
  rcases hN with e | e | e | e <;> rw [e] <;> push_cast <;> grind
 have k0 : (0 : Rat) ≤ N := by exact_mod_cast (Int.le_of_lt n0)
 obtain ⟨r1, r2, r3⟩ := in_cone (M := (N : Rat)) (m := 190 / 100000000000 * (N : Rat)) (lo := lo) (hi := hi) k0 (by exact_mod_cast n1) (by exact_mod_cast n2) (by exact_mod_cast n3) (by exact_mod_cast n4) (Rat.mul_nonneg (by decide +kernel) k0) b hl hh hw
 generalize cr (lo * 1000000) y x = u at *
 generalize cr (hi * 1000000) y x = v at *
 generalize dt (lo * 1000000) y x + dt (hi * 1000000) y x = w at *
 clear b hN n1 n2 n3 n4
 refine ⟨?_, ?_, ?_⟩ <;> grind
theorem box_in {y0 y1 x0 x1 a b c d lo hi : Int} (Aa : At a y0 x0) (Ab : At b y0 x1) (Ac : At c y1 x0) (Ad : At d y1 x1) (E : Go.Proofs.Ytedakilpogagiaa.ArcT.Ends a b c d lo hi) (hw : hi - lo ≤ 500000000) {M : Rat} (m1 : -M ≤ (y0 : Rat)) (m2 : (y0 : Rat) ≤ M) (m3 : -M ≤ (y1 : Rat)) (m4 : (y1 : Rat) ≤ M) (m5 : -M ≤ (x0 : Rat)) (m6 : (x0 : Rat) ≤ M) (m7 : -M ≤ (x1 : Rat)) (m8 : (x1 : Rat) ≤ M)
  {y x : Rat} (h0 : (y0 : Rat) ≤ y) (h1 : y ≤ (y1 : Rat)) (g0 : (x0 : Rat) ≤ x) (g1 : x ≤ (x1 : Rat)) :
  -(1 / 10000000000 * M) ≤ cr (lo * 1000000) y x ∧ cr (hi * 1000000) y x ≤ 1 / 10000000000 * M ∧ -(1 / 1000000000 * M) ≤ dt (lo * 1000000) y x + dt (hi * 1000000) y x := by
 obtain ⟨p1, p2, p3⟩ := at_in Aa m1 m2 m5 m6 E.la E.ha hw
 obtain ⟨q1, q2, q3⟩ := at_in Ab m1 m2 m7 m8 E.lb E.hb hw
 obtain ⟨r1, r2, r3⟩ := at_in Ac m3 m4 m5 m6 E.lc E.hc hw
 obtain ⟨s1, s2, s3⟩ := at_in Ad m3 m4 m7 m8 E.ld E.hd hw
 unfold cr dt at *
 generalize C (lo * 1000000) = Cl at *
 generalize S (lo * 1000000) = Sl at *
 generalize C (hi * 1000000) = Ch at *
 generalize S (hi * 1000000) = Sh at *
 have u1 := aff_min (p := Cl) (q := -Sl) (T := -(1 / 10000000000 * M)) h0 h1 g0 g1 (by grind) (by grind) (by grind) (by grind)
 have u2 := aff_min (p := -Ch) (q := Sh) (T := -(1 / 10000000000 * M)) h0 h1 g0 g1 (by grind) (by grind) (by grind) (by grind)
 have u3 := aff_min (p := Sl + Sh) (q := Cl + Ch) (T := -(1 / 1000000000 * M)) h0 h1 g0 g1 (by grind) (by grind) (by grind) (by grind)
 clear p1 p2 p3 q1 q2 q3 r1 r2 r3 s1 s2 s3
 refine ⟨?_, ?_, ?_⟩ <;> grind
end Go.Proofs.Ytedakilpogagiaa.Box
