/- Equator of narrow intervals, and what lies near them. -/
import Derived.Test.YtedakilpogagiaaDialShadowsn44
namespace Go.Proofs.Ytedakilpogagiaa.EqN
open Go Go.RowKit YtedakilpogagiaaW.PrintWords YtedakilpogagiaaW.PrintLast YtedakilpogagiaaW.PrintMore PAll Base Turn OctT SinT RefT Circ Over Units Args Vals Cone Arcs ArcT ArcSinT NarrowT EqT
set_option linter.unusedVariables false
set_option linter.unusedSimpArgs false
theorem z_rat {z ζ Z zm w : Rat} (h : Nr (ζ - 1000000000 * Z) (1 / 100000000)) (z0 : -zm ≤ Z) (z1 : Z ≤ zm) (a : ζ - w ≤ z) (b : z ≤ ζ + w) : -(1000000000 * zm + w + 1) ≤ z ∧ z ≤ 1000000000 * zm + w + 1 := by
 unfold Nr at h
 constructor <;> grind
theorem S_big (n : Int) (m : Nat) (h0 : 0 ≤ n) (h1 : n < 1000000000000000) (hm : ag n = m) {q : Rat} (hq : q ≤ sinP (s1 * (m : Rat)) 20) (hs : s1 * (m : Rat) ≤ 1) : q - 1 / 1000000000000000000 ≤ S n := by
 rw [(S_arg n h0 h1).1, hm]
 obtain ⟨_, _, _, h⟩ := taylor20 (n := m) hs (sn_nonneg _)
 rw [u_eq] at h
 generalize sinT m = x at *
 generalize sinP (s1 * (m : Rat)) 20 = y at *
 grind
theorem S_7400 : 4649 / 100000000 + 1 / 100000000000000000 ≤ S (7400 * 1000000) :=
 Rat.le_trans (by decide +kernel) (S_big (7400 * 1000000) (7400000000 * 1099511627776) (by omega) (by omega) (by decide +kernel) (q := 46495 / 1000000000) (by decide +kernel) (by decide +kernel))
theorem verse {K : Int} (h0 : 0 ≤ K) (h1 : K ≤ 250000000) {q : Rat} (hq : kap * ((K * 1000000 : Int) : Rat) + 1 / 10000000000000000000 ≤ q) (q1 : q ≤ 1 / 10) : 1 - C (K * 1000000) ≤ q * q + 2 / 1000000000000 := by
 have l := S_lip (a := 0) (b := K * 1000000) (by omega)
 rw [S_zero, show K * 1000000 - 0 = K * 1000000 by omega] at l
 have c := C_quarter (a := K) (by omega) h1
 have sq := SC_sq (K * 1000000)
 have b := (SC_bound (K * 1000000)).2.1
 unfold Nr at l
 generalize kap * ((K * 1000000 : Int) : Rat) = v at *
 generalize S (K * 1000000) = s at *
 generalize C (K * 1000000) = x at *
 have k := OctT.abs_mul (a := s) (b := s) (A := q) (B := q) (by grind) (by grind) (by grind) (by grind)
 have k2 : (1 - x) * (1 + x) = s * s := by grind
 have k3 := Rat.mul_le_mul_of_nonneg_left (show 1 - 1 / 1000000000000 ≤ 1 + x by grind) (show 0 ≤ 1 - x by grind)
 grind
theorem lip1 {a b : Int} (h1 : a - b ≤ 153) (h2 : b - a ≤ 153) : Nr (S a - S b) (1 / 1000000000000) ∧ Nr (C a - C b) (1 / 1000000000000) := by
 have kb : kap * 153 ≤ 9 / 10000000000000 + 7 / 100000000000000 := by decide +kernel
 have m : ∀ d : Int, d ≤ 153 → kap * (d : Rat) ≤ kap * 153 := fun d hd => Rat.mul_le_mul_of_nonneg_left (by have := cle hd; push_cast at this; exact this) (by decide +kernel)
 rcases Int.lt_or_le a b with c | c
 ·have l1 := S_lip (a := a) (b := b) (by omega)
  have l2 := C_lip (a := a) (b := b) (by omega)
  have k := m (b - a) h2
  unfold Nr at *
  generalize kap * ((b - a : Int) : Rat) = v at *
  generalize kap * 153 = w at *
  generalize S a = p at *
  generalize S b = q at *
  generalize C a = p' at *
  generalize C b = q' at *
  refine ⟨⟨?_, ?_⟩, ⟨?_, ?_⟩⟩ <;> grind
 ·have l1 := S_lip (a := b) (b := a) (by omega)
  have l2 := C_lip (a := b) (b := a) (by omega)
  have k := m (a - b) h1
  unfold Nr at *
  generalize kap * ((a - b : Int) : Rat) = v at *
  generalize kap * 153 = w at *
  generalize S a = p at *
  generalize S b = q at *
  generalize C a = p' at *
  generalize C b = q' at *
  refine ⟨⟨?_, ?_⟩, ⟨?_, ?_⟩⟩ <;> grind
theorem p2 {a b c d e : Rat} (h : Nr (a - c) e) (g : Nr (b - d) e) (b0 : -1 ≤ b) (b1 : b ≤ 1) (c0 : -1 ≤ c) (c1 : c ≤ 1) : Nr (a * b - c * d) (2 * e) := by
 unfold Nr at *
 have k1 := OctT.abs_mul h.1 h.2 b0 b1
 have k2 := OctT.abs_mul c0 c1 g.1 g.2
 constructor <;> grind
theorem m1 {a c e f : Rat} (h : Nr (a - c) e) (f0 : -1 ≤ f) (f1 : f ≤ 1) : Nr (a * f - c * f) e := by
 unfold Nr at *
 have k1 := OctT.abs_mul h.1 h.2 f0 f1
 constructor <;> grind
theorem add3 {a b c d : Rat} (h : Nr (a - c) (2 * (1 / 1000000000000))) (g : Nr (b - d) (1 / 1000000000000)) : Nr (a - b - (c - d)) (1 / 250000000000) ∧ Nr (a + b - (c + d)) (1 / 250000000000) := by
 unfold Nr at *
 refine ⟨⟨?_, ?_⟩, ⟨?_, ?_⟩⟩ <;> grind
theorem nr4 {x : Rat} (h : Nr x (2 * (1 / 1000000000000))) : Nr x (1 / 250000000000) := by
 unfold Nr at *
 constructor <;> grind
theorem e_near {t t' s s' : Int} (a1 : t - t' ≤ 153) (a2 : t' - t ≤ 153) (b1 : s - s' ≤ 153) (b2 : s' - s ≤ 153) : Nr (eX t s - eX t' s') (1 / 250000000000) ∧ Nr (eY t s - eY t' s') (1 / 250000000000) ∧ Nr (eZ t s - eZ t' s') (1 / 250000000000) := by
 obtain ⟨l1, l2⟩ := lip1 a1 a2
 obtain ⟨l3, l4⟩ := lip1 b1 b2
 obtain ⟨q1, q2, q3, q4⟩ := SC_bound t
 obtain ⟨r1, r2, r3, r4⟩ := SC_bound s'
 obtain ⟨w1, w2, w3, w4⟩ := SC_bound 65109000000000
 have f1 := p2 l4 l2 q1 q2 r1 r2
 have f2 := p2 l4 l1 q3 q4 r1 r2
 unfold eX eY eZ
 exact ⟨nr4 f1, (add3 (m1 f2 w1 w2) (m1 l3 w3 w4)).1, (add3 (m1 f2 w3 w4) (m1 l3 w1 w2)).2⟩
theorem d_near {d : Int} {x y : Rat} (h : Nr ((d : Rat) - u * x) 10000000) (g : Nr (x - y) (1 / 250000000000)) : Nr ((d : Rat) - u * y) 20000000 := by
 rw [u_eq] at *
 unfold Nr at *
 constructor <;> grind
theorem e_per {t t' s s' : Int} (h : t % 1000000000000000 = t' % 1000000000000000) (g : s % 1000000000000000 = s' % 1000000000000000) : eX t s = eX t' s' ∧ eY t s = eY t' s' ∧ eZ t s = eZ t' s' := by
 unfold eX eY eZ
 rw [S_per h, C_per h, S_per g, C_per g]
 exact ⟨rfl, rfl, rfl⟩
theorem ag2_shift (v z : Int) : (v + z * 1048576000000000) * 1000000 / 1048576 = ag2 v + (v / 1048576000000000 + z) * 1000000000000000 := by
 unfold ag2
 have e := Int.emod_add_mul_ediv v 1048576000000000
 generalize v % 1048576000000000 = r at *
 generalize v / 1048576000000000 = q at *
 rw [← e]
 omega
theorem ag2_mod (v z : Int) : ag2 v % 1000000000000000 = (v + z * 1048576000000000) * 1000000 / 1048576 % 1000000000000000 := by
 rw [ag2_shift, Int.add_mul_emod_self_right]
end Go.Proofs.Ytedakilpogagiaa.EqN
