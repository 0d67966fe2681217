/- Equator of narrow intervals, and what lies near them. -/
import Derived.Test.YtedakilpogagiaaSunEquatorsn46
namespace Go.Proofs.Ytedakilpogagiaa.EqN
open Go Go.RowKit Go.Proofs.YtedakilpogagiaaW.PrintWords Go.Proofs.YtedakilpogagiaaW.PrintLast Go.Proofs.YtedakilpogagiaaW.PrintMore Go.Proofs.Ytedakilpogagiaa.PAll Go.Proofs.Ytedakilpogagiaa.Base Go.Proofs.Ytedakilpogagiaa.Turn Go.Proofs.Ytedakilpogagiaa.OctT Go.Proofs.Ytedakilpogagiaa.SinT Go.Proofs.Ytedakilpogagiaa.RefT Go.Proofs.Ytedakilpogagiaa.Circ Go.Proofs.Ytedakilpogagiaa.Over Go.Proofs.Ytedakilpogagiaa.Units Go.Proofs.Ytedakilpogagiaa.Args Go.Proofs.Ytedakilpogagiaa.Vals Go.Proofs.Ytedakilpogagiaa.Cone Go.Proofs.Ytedakilpogagiaa.Arcs Go.Proofs.Ytedakilpogagiaa.ArcT Go.Proofs.Ytedakilpogagiaa.ArcSinT Go.Proofs.Ytedakilpogagiaa.NarrowT Go.Proofs.Ytedakilpogagiaa.EqT
set_option linter.unusedVariables false
set_option linter.unusedSimpArgs false
def Fits (lo hi la lb A0 A1 B0 B1 : Int) : Prop := ∀ t s, lo * 1000000 ≤ t → t ≤ hi * 1000000 → la * 1000000 ≤ s → s ≤ lb * 1000000 → ∀ dX dY dZ : Int, Nr ((dX : Rat) - u * eX t s) 20000000 → Nr ((dY : Rat) - u * eY t s) 20000000 → Nr ((dZ : Rat) - u * eZ t s) 20000000 →
  Ev (fun k => ephemerisref2_InArc.f k A0 A1 dY dX) true ∧ Ev (fun k => ephemerisref2_InArcSin.f k B0 B1 dZ) true
theorem z_rat {z ζ Z zm w : Rat} (h : Nr (ζ - 1000000000 * Z) (1 / 100000000)) (z0 : -zm ≤ Z) (z1 : Z ≤ zm) (a : ζ - w ≤ z) (b : z ≤ ζ + w) : -(1000000000 * zm + w + 1) ≤ z ∧ z ≤ 1000000000 * zm + w + 1 := by
 unfold Nr at h
 constructor <;> grind
theorem eq_narrow {lo hi la lb : Int} (h1 : sp lo hi = 0) (h2 : sp la lb = 0) (l0 : -125000000 ≤ la) (l1 : lb ≤ 125000000) (hw : hi - lo ≤ 1000000000) {D wy wx K : Int} (hy : 22 + 7 * (hi - lo) + 14 * (lb - la) ≤ wy) (hx : 8 + 7 * (hi - lo) + 7 * (lb - la) ≤ wx) (hD : wy + wx ≤ D) (D2 : D ≤ 2000000)
  {zm ρ W κ : Rat} (zm0 : 0 ≤ zm) (hz : -zm ≤ eZ (lo * 1000000) (la * 1000000) ∧ eZ (lo * 1000000) (la * 1000000) ≤ zm) (hρ : ρ * ρ + 2000000002 * (D : Rat) + 100 ≤ 1000000000000000000 * (1 - zm * zm)) (r0 : 100000000 ≤ ρ) (W0 : 0 ≤ W) (hW : (wy : Rat) * (wy : Rat) + (wx : Rat) * (wx : Rat) ≤ W * W)
  (k0 : 0 ≤ κ) (kS : κ + 1 / 100000000000000000 ≤ S (K * 1000000)) (hK : 0 ≤ K) (hK2 : K ≤ 200000000) (g1 : W + 110 < κ * (ρ - 1)) (g2 : 32 / 100 * 1010000000 + W + 110 < ρ) :
  ∃ A0 A1 B0 B1 z0 z1 : Int, Ev (fun k => sun_Equator.f k lo hi la lb) (A0, A1, B0, B1, 0) ∧ Fits lo hi la lb A0 A1 B0 B1 ∧ A1 - A0 ≤ K + 6 ∧ Arcs2 B0 B1 (cp z0) (cp z1) ∧ z0 ≤ z1 ∧ z1 - z0 ≤ wy ∧ (-(1000000000 * zm + (wy : Rat) + 1) ≤ (z0 : Rat) ∧ (z1 : Rat) ≤ 1000000000 * zm + (wy : Rat) + 1) ∧ A0 ≤ A1 ∧ 0 ≤ A0 ∧ A0 < 1000000000 := by
 obtain ⟨p1, p2, p3⟩ := sp_zero h1
 obtain ⟨q1, q2, q3⟩ := sp_zero h2
 obtain ⟨y0, y1, x0, x1, z0, z1, bx, f1, f2⟩ := eq_core h1 h2 l0 l1
 have wY := bx.wy hw
 have wX := bx.wx hw
 have wZ := bx.wz hw
 have yy := bx.y
 have xx := bx.x
 have zz := bx.z
 have yb := bx.yb
 have nm := norm_of bx p2 q2 (D := D) (by omega) D2 zm0 hz hρ
 have nz : ¬ (y0 ≤ 0 ∧ 0 ≤ y1 ∧ x0 ≤ 0 ∧ 0 ≤ x1) := by
  rintro ⟨a, b, c, d⟩
  have h := (nm 0 0 a b c d).1
  have k := OctT.abs_mul (a := ρ) (b := ρ) (A := ρ) (B := ρ) (by grind) (by grind) (by grind) (by grind)
  have k2 := Rat.mul_le_mul_of_nonneg_left r0 (show (0 : Rat) ≤ 100000000 by decide +kernel)
  have k3 := Rat.mul_le_mul_of_nonneg_left r0 (show 0 ≤ ρ by grind)
  push_cast at h
  clear nm bx f1 f2
  grind
 obtain ⟨a, b, c, d, p, q, A, B, A1, A2, A3, A4, E, b1, c1, d1, hs, _, ok⟩ := f2 nz
 have W1 : ((y1 - y0 : Int) : Rat) * ((y1 - y0 : Int) : Rat) + ((x1 - x0 : Int) : Rat) * ((x1 - x0 : Int) : Rat) ≤ W * W := by
  refine Rat.le_trans (sq_add ?_ ?_ ?_ ?_) hW
  ·have := cle (show -wy ≤ y1 - y0 by omega); push_cast at this ⊢; exact this
  ·exact cle (show y1 - y0 ≤ wy by omega)
  ·have := cle (show -wx ≤ x1 - x0 by omega); push_cast at this ⊢; exact this
  ·exact cle (show x1 - x0 ≤ wx by omega)
 have nar := arc_narrow A1 A2 A3 A4 E b1 c1 d1 (by omega) (by omega) (by omega) (by omega) (by omega) (by omega) W0 W1 r0 (by decide +kernel : (0 : Rat) ≤ 1010000000) (by decide +kernel) nm k0 kS hK hK2 g1 g2
 have e1 := E.la
 have e2 := E.ha
 refine ⟨_, _, A, B, z0, z1, ok (by omega), ?_, by omega, hs, by omega, by omega, ?_, by omega, by omega, by omega⟩
 ·intro t s t0 t1 s0 s1 dX dY dZ hX hY hZ
  exact eq_holds bx A1 A2 A3 A4 E hs (by omega) t0 t1 s0 s1 hX hY hZ
 ·obtain ⟨η, ξ, ζ, _, _, ⟨n5, n6⟩, _, _, nZ⟩ := bx.tell (lo * 1000000) (la * 1000000) (by omega) (by omega) (by omega) (by omega)
  have w1 := cle (show z1 - z0 ≤ wy by omega)
  push_cast at w1
  have w2 := cle (show z0 ≤ z1 by omega)
  exact ⟨(z_rat (w := (wy : Rat)) nZ hz.1 hz.2 (by clear nZ bx nm; grind) (by clear nZ bx nm; grind)).1, (z_rat (w := (wy : Rat)) nZ hz.1 hz.2 (by clear nZ bx nm; grind) (by clear nZ bx nm; grind)).2⟩
theorem S_big (n : Int) (m : Nat) (h0 : 0 ≤ n) (h1 : n < 1000000000000000) (hm : ag n = m) {q : Rat} (hq : q ≤ sinP (s1 * (m : Rat)) 20) (hs : s1 * (m : Rat) ≤ 1) : q - 1 / 1000000000000000000 ≤ S n := by
 rw [(S_arg n h0 h1).1, hm]
 obtain ⟨_, _, _, h⟩ := taylor20 (n := m) hs (sn_nonneg _)
 rw [u_eq] at h
 generalize sinT m = x at *
 generalize sinP (s1 * (m : Rat)) 20 = y at *
 grind
theorem S_7400 : 4649 / 100000000 + 1 / 100000000000000000 ≤ S (7400 * 1000000) :=
 Rat.le_trans (by decide +kernel) (S_big (7400 * 1000000) (7400000000 * 1099511627776) (by omega) (by omega) (by decide +kernel) (q := 46495 / 1000000000) (by decide +kernel) (by decide +kernel))
theorem p2 {a b c d e : Rat} (h : Nr (a - c) e) (g : Nr (b - d) e) (b0 : -1 ≤ b) (b1 : b ≤ 1) (c0 : -1 ≤ c) (c1 : c ≤ 1) : Nr (a * b - c * d) (2 * e) := by
 unfold Nr at *
 have k1 := OctT.abs_mul h.1 h.2 b0 b1
 have k2 := OctT.abs_mul c0 c1 g.1 g.2
 constructor <;> grind
theorem m1 {a c e f : Rat} (h : Nr (a - c) e) (f0 : -1 ≤ f) (f1 : f ≤ 1) : Nr (a * f - c * f) e := by
 unfold Nr at *
 have k1 := OctT.abs_mul h.1 h.2 f0 f1
 constructor <;> grind
theorem e_per {t t' s s' : Int} (h : t % 1000000000000000 = t' % 1000000000000000) (g : s % 1000000000000000 = s' % 1000000000000000) : eX t s = eX t' s' ∧ eY t s = eY t' s' ∧ eZ t s = eZ t' s' := by
 unfold eX eY eZ
 rw [S_per h, C_per h, S_per g, C_per g]
 exact ⟨rfl, rfl, rfl⟩
end Go.Proofs.Ytedakilpogagiaa.EqN
