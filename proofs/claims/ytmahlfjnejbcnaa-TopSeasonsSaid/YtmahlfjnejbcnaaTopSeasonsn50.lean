/- Equator of narrow intervals, and what lies near them. -/
import Derived.Test.YtmahlfjnejbcnaaTopSeasonsn49
namespace Go.Proofs.Ytmahlfjnejbcnaa.EqN
open Go Go.RowKit YtmahlfjnejbcnaaW.PrintWords YtmahlfjnejbcnaaW.PrintLast YtmahlfjnejbcnaaW.PrintMore PAll Base Turn OctT SinT RefT Circ Over Units Args Vals Cone Arcs ArcT ArcSinT NarrowT EqT
set_option linter.unusedVariables false
set_option linter.unusedSimpArgs false
theorem z_rat {z ζ Z zm w : Rat} (h : Nr (ζ - 1000000000 * Z) (1 / 100000000)) (z0 : -zm ≤ Z) (z1 : Z ≤ zm) (a : ζ - w ≤ z) (b : z ≤ ζ + w) : -(1000000000 * zm + w + 1) ≤ z ∧ z ≤ 1000000000 * zm + w + 1 := by
 unfold Nr at h
 constructor <;> grind
theorem S_big (n : Int) (m : Nat) (h0 : 0 ≤ n) (h1 : n < 1000000000000000) (hm : ag n = m) {q : Rat} (hq : q ≤ sinP (s1 * (m : Rat)) 20) (hs : s1 * (m : Rat) ≤ 1) : q - 1 / 1000000000000000000 ≤ S n := by
 rw [(S_arg n h0 h1).1, hm]
 obtain ⟨_, _, _, h⟩ := taylor20 (n := m) hs (sn_nonneg _)
 rw [u_eq] at h
 generalize sinT m = x at *
 generalize sinP (s1 * (m : Rat)) 20 = y at *
 grind
theorem S_7400 : 4649 / 100000000 + 1 / 100000000000000000 ≤ S (7400 * 1000000) :=
 Rat.le_trans (by decide +kernel) (S_big (7400 * 1000000) (7400000000 * 1099511627776) (by omega) (by omega) (by decide +kernel) (q := 46495 / 1000000000) (by decide +kernel) (by decide +kernel))
theorem verse {K : Int} (h0 : 0 ≤ K) (h1 : K ≤ 250000000) {q : Rat} (hq : kap * ((K * 1000000 : Int) : Rat) + 1 / 10000000000000000000 ≤ q) (q1 : q ≤ 1 / 10) : 1 - C (K * 1000000) ≤ q * q + 2 / 1000000000000 := by
 have l := S_lip (a := 0) (b := K * 1000000) (by omega)
 rw [S_zero, show K * 1000000 - 0 = K * 1000000 by omega] at l
 have c := C_quarter (a := K) (by omega) h1
 have sq := SC_sq (K * 1000000)
 have b := (SC_bound (K * 1000000)).2.1
 unfold Nr at l
 generalize kap * ((K * 1000000 : Int) : Rat) = v at *
 generalize S (K * 1000000) = s at *
 generalize C (K * 1000000) = x at *
 have k := OctT.abs_mul (a := s) (b := s) (A := q) (B := q) (by grind) (by grind) (by grind) (by grind)
 have k2 : (1 - x) * (1 + x) = s * s := by grind
 have k3 := Rat.mul_le_mul_of_nonneg_left (show 1 - 1 / 1000000000000 ≤ 1 + x by grind) (show 0 ≤ 1 - x by grind)
 grind
theorem p2 {a b c d e : Rat} (h : Nr (a - c) e) (g : Nr (b - d) e) (b0 : -1 ≤ b) (b1 : b ≤ 1) (c0 : -1 ≤ c) (c1 : c ≤ 1) : Nr (a * b - c * d) (2 * e) := by
 unfold Nr at *
 have k1 := OctT.abs_mul h.1 h.2 b0 b1
 have k2 := OctT.abs_mul c0 c1 g.1 g.2
 constructor <;> grind
theorem m1 {a c e f : Rat} (h : Nr (a - c) e) (f0 : -1 ≤ f) (f1 : f ≤ 1) : Nr (a * f - c * f) e := by
 unfold Nr at *
 have k1 := OctT.abs_mul h.1 h.2 f0 f1
 constructor <;> grind
end Go.Proofs.Ytmahlfjnejbcnaa.EqN
