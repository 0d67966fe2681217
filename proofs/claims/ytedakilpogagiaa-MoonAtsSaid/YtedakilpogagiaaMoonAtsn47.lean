/- Equator of narrow intervals, and what lies near them. -/
import Derived.Test.YtedakilpogagiaaMoonAtsn46
namespace Go.Proofs.Ytedakilpogagiaa.EqN
open Go Go.RowKit Go.Proofs.YtedakilpogagiaaW.PrintWords Go.Proofs.YtedakilpogagiaaW.PrintLast Go.Proofs.YtedakilpogagiaaW.PrintMore Go.Proofs.Ytedakilpogagiaa.PAll Go.Proofs.Ytedakilpogagiaa.Base Go.Proofs.Ytedakilpogagiaa.Turn Go.Proofs.Ytedakilpogagiaa.OctT Go.Proofs.Ytedakilpogagiaa.SinT Go.Proofs.Ytedakilpogagiaa.RefT Go.Proofs.Ytedakilpogagiaa.Circ Go.Proofs.Ytedakilpogagiaa.Over Go.Proofs.Ytedakilpogagiaa.Units Go.Proofs.Ytedakilpogagiaa.Args Go.Proofs.Ytedakilpogagiaa.Vals Go.Proofs.Ytedakilpogagiaa.Cone Go.Proofs.Ytedakilpogagiaa.Arcs Go.Proofs.Ytedakilpogagiaa.ArcT Go.Proofs.Ytedakilpogagiaa.ArcSinT Go.Proofs.Ytedakilpogagiaa.NarrowT Go.Proofs.Ytedakilpogagiaa.EqT
set_option linter.unusedVariables false
set_option linter.unusedSimpArgs false
def Fits (lo hi la lb A0 A1 B0 B1 : Int) : Prop := ∀ t s, lo * 1000000 ≤ t → t ≤ hi * 1000000 → la * 1000000 ≤ s → s ≤ lb * 1000000 → ∀ dX dY dZ : Int, Nr ((dX : Rat) - u * eX t s) 20000000 → Nr ((dY : Rat) - u * eY t s) 20000000 → Nr ((dZ : Rat) - u * eZ t s) 20000000 →
  Ev (fun k => ephemerisref2_InArc.f k A0 A1 dY dX) true ∧ Ev (fun k => ephemerisref2_InArcSin.f k B0 B1 dZ) true
theorem z_rat {z ζ Z zm w : Rat} (h : Nr (ζ - 1000000000 * Z) (1 / 100000000)) (z0 : -zm ≤ Z) (z1 : Z ≤ zm) (a : ζ - w ≤ z) (b : z ≤ ζ + w) : -(1000000000 * zm + w + 1) ≤ z ∧ z ≤ 1000000000 * zm + w + 1 := by
 unfold Nr at h
 constructor <;> grind
theorem eq_narrow {lo hi la lb : Int} (h1 : sp lo hi = 0) (h2 : sp la lb = 0) (l0 : -125000000 ≤ la) (l1 : lb ≤ 125000000) (hw : hi - lo ≤ 1000000000) {D wy wx K : Int} (hy : 22 + 7 * (hi - lo) + 14 * (lb - la) ≤ wy) (hx : 8 + 7 * (hi - lo) + 7 * (lb - la) ≤ wx) (hD : wy + wx ≤ D) (D2 : D ≤ 2000000)
  {zm ρ W κ : Rat} (zm0 : 0 ≤ zm) (hz : -zm ≤ eZ (lo * 1000000) (la * 1000000) ∧ eZ (lo * 1000000) (la * 1000000) ≤ zm) (hρ : ρ * ρ + 2000000002 * (D : Rat) + 100 ≤ 1000000000000000000 * (1 - zm * zm)) (r0 : 100000000 ≤ ρ) (W0 : 0 ≤ W) (hW : (wy : Rat) * (wy : Rat) + (wx : Rat) * (wx : Rat) ≤ W * W)
  (k0 : 0 ≤ κ) (kS : κ + 1 / 100000000000000000 ≤ S (K * 1000000)) (hK : 0 ≤ K) (hK2 : K ≤ 200000000) (g1 : W + 110 < κ * (ρ - 1)) (g2 : 32 / 100 * 1010000000 + W + 110 < ρ) :
  ∃ A0 A1 B0 B1 z0 z1 : Int, Ev (fun k => sun_Equator.f k lo hi la lb) (A0, A1, B0, B1, 0) ∧ Fits lo hi la lb A0 A1 B0 B1 ∧ A1 - A0 ≤ K + 6 ∧ Arcs2 B0 B1 (cp z0) (cp z1) ∧ z0 ≤ z1 ∧ z1 - z0 ≤ wy ∧ (-(1000000000 * zm + (wy : Rat) + 1) ≤ (z0 : Rat) ∧ (z1 : Rat) ≤ 1000000000 * zm + (wy : Rat) + 1) ∧ A0 ≤ A1 ∧ 0 ≤ A0 ∧ A0 < 1000000000 := by
 obtain ⟨p1, p2, p3⟩ := sp_zero h1
 obtain ⟨q1, q2, q3⟩ := sp_zero h2
 obtain ⟨y0, y1, x0, x1, z0, z1, bx, f1, f2⟩ := eq_core h1 h2 l0 l1
 have wY := bx.wy hw
 have wX := bx.wx hw
 have wZ := bx.wz hw
 have yy := bx.y
 have xx := bx.x
 have zz := bx.z
 have yb := bx.yb
 have nm := norm_of bx p2 q2 (D := D) (by omega) D2 zm0 hz hρ
 have nz : ¬ (y0 ≤ 0 ∧ 0 ≤ y1 ∧ x0 ≤ 0 ∧ 0 ≤ x1) := by
  rintro ⟨a, b, c, d⟩
  have h := (nm 0 0 a b c d).1
  have k := OctT.abs_mul (a := ρ) (b := ρ) (A := ρ) (B := ρ) (by grind) (by grind) (by grind) (by grind)
  have k2 := Rat.mul_le_mul_of_nonneg_left r0 (show (0 : Rat) ≤ 100000000 by decide +kernel)
  have k3 := Rat.mul_le_mul_of_nonneg_left r0 (show 0 ≤ ρ by grind)
  push_cast at h
  clear nm bx f1 f2
  grind
 obtain ⟨a, b, c, d, p, q, A, B, A1, A2, A3, A4, E, b1, c1, d1, hs, _, ok⟩ := f2 nz
 have W1 : ((y1 - y0 : Int) : Rat) * ((y1 - y0 : Int) : Rat) + ((x1 - x0 : Int) : Rat) * ((x1 - x0 : Int) : Rat) ≤ W * W := by
  refine Rat.le_trans (sq_add ?_ ?_ ?_ ?_) hW
  ·have := cle (show -wy ≤ y1 - y0 by omega); push_cast at this ⊢; exact this
  ·exact cle (show y1 - y0 ≤ wy by omega)
  ·have := cle (show -wx ≤ x1 - x0 by omega); push_cast at this ⊢; exact this
  ·exact cle (show x1 - x0 ≤ wx by omega)
 have nar := arc_narrow A1 A2 A3 A4 E b1 c1 d1 (by omega) (by omega) (by omega) (by omega) (by omega) (by omega) W0 W1 r0 (by decide +kernel : (0 : Rat) ≤ 1010000000) (by decide +kernel) nm k0 kS hK hK2 g1 g2
 have e1 := E.la
 have e2 := E.ha
 refine ⟨_, _, A, B, z0, z1, ok (by omega), ?_, by omega, hs, by omega, by omega, ?_, by omega, by omega, by omega⟩
 ·intro t s t0 t1 s0 s1 dX dY dZ hX hY hZ
  exact eq_holds bx A1 A2 A3 A4 E hs (by omega) t0 t1 s0 s1 hX hY hZ
 ·obtain ⟨η, ξ, ζ, _, _, ⟨n5, n6⟩, _, _, nZ⟩ := bx.tell (lo * 1000000) (la * 1000000) (by omega) (by omega) (by omega) (by omega)
  have w1 := cle (show z1 - z0 ≤ wy by omega)
  push_cast at w1
  have w2 := cle (show z0 ≤ z1 by omega)
  exact ⟨(z_rat (w := (wy : Rat)) nZ hz.1 hz.2 (by clear nZ bx nm; grind) (by clear nZ bx nm; grind)).1, (z_rat (w := (wy : Rat)) nZ hz.1 hz.2 (by clear nZ bx nm; grind) (by clear nZ bx nm; grind)).2⟩
theorem S_big (n : Int) (m : Nat) (h0 : 0 ≤ n) (h1 : n < 1000000000000000) (hm : ag n = m) {q : Rat} (hq : q ≤ sinP (s1 * (m : Rat)) 20) (hs : s1 * (m : Rat) ≤ 1) : q - 1 / 1000000000000000000 ≤ S n := by
 rw [(S_arg n h0 h1).1, hm]
 obtain ⟨_, _, _, h⟩ := taylor20 (n := m) hs (sn_nonneg _)
 rw [u_eq] at h
 generalize sinT m = x at *
 generalize sinP (s1 * (m : Rat)) 20 = y at *
 grind
theorem S_190000 : 11938 / 10000000 + 1 / 100000000000000000 ≤ S (190000 * 1000000) :=
 Rat.le_trans (by decide +kernel) (S_big (190000 * 1000000) (190000000000 * 1099511627776) (by omega) (by omega) (by decide +kernel) (q := 119380 / 100000000 + 3 / 1000000000) (by decide +kernel) (by decide +kernel))
theorem S_165000 : 10367 / 10000000 ≤ S (165000 * 1000000) :=
 Rat.le_trans (by decide +kernel) (S_big (165000 * 1000000) (165000000000 * 1099511627776) (by omega) (by omega) (by decide +kernel) (q := 103671 / 100000000) (by decide +kernel) (by decide +kernel))
theorem verse {K : Int} (h0 : 0 ≤ K) (h1 : K ≤ 250000000) {q : Rat} (hq : kap * ((K * 1000000 : Int) : Rat) + 1 / 10000000000000000000 ≤ q) (q1 : q ≤ 1 / 10) : 1 - C (K * 1000000) ≤ q * q + 2 / 1000000000000 := by
 have l := S_lip (a := 0) (b := K * 1000000) (by omega)
 rw [S_zero, show K * 1000000 - 0 = K * 1000000 by omega] at l
 have c := C_quarter (a := K) (by omega) h1
 have sq := SC_sq (K * 1000000)
 have b := (SC_bound (K * 1000000)).2.1
 unfold Nr at l
 generalize kap * ((K * 1000000 : Int) : Rat) = v at *
 generalize S (K * 1000000) = s at *
 generalize C (K * 1000000) = x at *
 have k := OctT.abs_mul (a := s) (b := s) (A := q) (B := q) (by grind) (by grind) (by grind) (by grind)
 have k2 : (1 - x) * (1 + x) = s * s := by grind
 have k3 := Rat.mul_le_mul_of_nonneg_left (show 1 - 1 / 1000000000000 ≤ 1 + x by grind) (show 0 ≤ 1 - x by grind)
 grind
theorem lip1 {a b : Int} (h1 : a - b ≤ 153) (h2 : b - a ≤ 153) : Nr (S a - S b) (1 / 1000000000000) ∧ Nr (C a - C b) (1 / 1000000000000) := by
 have kb : kap * 153 ≤ 9 / 10000000000000 + 7 / 100000000000000 := by decide +kernel
 have m : ∀ d : Int, d ≤ 153 → kap * (d : Rat) ≤ kap * 153 := fun d hd => Rat.mul_le_mul_of_nonneg_left (by have := cle hd; push_cast at this; exact this) (by decide +kernel)
 rcases Int.lt_or_le a b with c | c
 ·have l1 := S_lip (a := a) (b := b) (by omega)
  have l2 := C_lip (a := a) (b := b) (by omega)
  have k := m (b - a) h2
  unfold Nr at *
  generalize kap * ((b - a : Int) : Rat) = v at *
  generalize kap * 153 = w at *
  generalize S a = p at *
  generalize S b = q at *
  generalize C a = p' at *
  generalize C b = q' at *
  refine ⟨⟨?_, ?_⟩, ⟨?_, ?_⟩⟩ <;> grind
 ·have l1 := S_lip (a := b) (b := a) (by omega)
  have l2 := C_lip (a := b) (b := a) (by omega)
  have k := m (a - b) h1
  unfold Nr at *
  generalize kap * ((a - b : Int) : Rat) = v at *
  generalize kap * 153 = w at *
  generalize S a = p at *
  generalize S b = q at *
  generalize C a = p' at *
  generalize C b = q' at *
  refine ⟨⟨?_, ?_⟩, ⟨?_, ?_⟩⟩ <;> grind
theorem p2 {a b c d e : Rat} (h : Nr (a - c) e) (g : Nr (b - d) e) (b0 : -1 ≤ b) (b1 : b ≤ 1) (c0 : -1 ≤ c) (c1 : c ≤ 1) : Nr (a * b - c * d) (2 * e) := by
 unfold Nr at *
 have k1 := OctT.abs_mul h.1 h.2 b0 b1
 have k2 := OctT.abs_mul c0 c1 g.1 g.2
 constructor <;> grind
theorem m1 {a c e f : Rat} (h : Nr (a - c) e) (f0 : -1 ≤ f) (f1 : f ≤ 1) : Nr (a * f - c * f) e := by
 unfold Nr at *
 have k1 := OctT.abs_mul h.1 h.2 f0 f1
 constructor <;> grind
theorem add3 {a b c d : Rat} (h : Nr (a - c) (2 * (1 / 1000000000000))) (g : Nr (b - d) (1 / 1000000000000)) : Nr (a - b - (c - d)) (1 / 250000000000) ∧ Nr (a + b - (c + d)) (1 / 250000000000) := by
 unfold Nr at *
 refine ⟨⟨?_, ?_⟩, ⟨?_, ?_⟩⟩ <;> grind
theorem nr4 {x : Rat} (h : Nr x (2 * (1 / 1000000000000))) : Nr x (1 / 250000000000) := by
 unfold Nr at *
 constructor <;> grind
theorem e_near {t t' s s' : Int} (a1 : t - t' ≤ 153) (a2 : t' - t ≤ 153) (b1 : s - s' ≤ 153) (b2 : s' - s ≤ 153) : Nr (eX t s - eX t' s') (1 / 250000000000) ∧ Nr (eY t s - eY t' s') (1 / 250000000000) ∧ Nr (eZ t s - eZ t' s') (1 / 250000000000) := by
 obtain ⟨l1, l2⟩ := lip1 a1 a2
 obtain ⟨l3, l4⟩ := lip1 b1 b2
 obtain ⟨q1, q2, q3, q4⟩ := SC_bound t
 obtain ⟨r1, r2, r3, r4⟩ := SC_bound s'
 obtain ⟨w1, w2, w3, w4⟩ := SC_bound 65109000000000
 have f1 := p2 l4 l2 q1 q2 r1 r2
 have f2 := p2 l4 l1 q3 q4 r1 r2
 unfold eX eY eZ
 exact ⟨nr4 f1, (add3 (m1 f2 w1 w2) (m1 l3 w3 w4)).1, (add3 (m1 f2 w3 w4) (m1 l3 w1 w2)).2⟩
theorem d_near {d : Int} {x y : Rat} (h : Nr ((d : Rat) - u * x) 10000000) (g : Nr (x - y) (1 / 250000000000)) : Nr ((d : Rat) - u * y) 20000000 := by
 rw [u_eq] at *
 unfold Nr at *
 constructor <;> grind
theorem e_per {t t' s s' : Int} (h : t % 1000000000000000 = t' % 1000000000000000) (g : s % 1000000000000000 = s' % 1000000000000000) : eX t s = eX t' s' ∧ eY t s = eY t' s' ∧ eZ t s = eZ t' s' := by
 unfold eX eY eZ
 rw [S_per h, C_per h, S_per g, C_per g]
 exact ⟨rfl, rfl, rfl⟩
theorem ag2_shift (v z : Int) : (v + z * 1048576000000000) * 1000000 / 1048576 = ag2 v + (v / 1048576000000000 + z) * 1000000000000000 := by
 unfold ag2
 have e := Int.emod_add_mul_ediv v 1048576000000000
 generalize v % 1048576000000000 = r at *
 generalize v / 1048576000000000 = q at *
 rw [← e]
 omega
theorem ag2_mod (v z : Int) : ag2 v % 1000000000000000 = (v + z * 1048576000000000) * 1000000 / 1048576 % 1000000000000000 := by
 rw [ag2_shift, Int.add_mul_emod_self_right]
theorem ref_fits {lo hi la lb A0 A1 B0 B1 v w z z' : Int} (F : Fits lo hi la lb A0 A1 B0 B1) (hl : lo ≤ hi) (hb : la ≤ lb) (v0 : -9223372036854775808 ≤ v) (v1 : v ≤ 9223372036854775807) (w0 : -9223372036854775808 ≤ w) (w1 : w ≤ 9223372036854775807)
  (a0 : lo * 1048576 ≤ v + z * 1048576000000000 + 160) (a1 : v + z * 1048576000000000 ≤ hi * 1048576 + 160) (b0 : la * 1048576 ≤ w + z' * 1048576000000000 + 160) (b1 : w + z' * 1048576000000000 ≤ lb * 1048576 + 160) :
  ∃ X Y Z : Int, Ev (fun k => ephemerisref2_Equator.f k v w) (X, Y, Z) ∧ Ev (fun k => ephemerisref2_InArc.f k A0 A1 Y X) true ∧ Ev (fun k => ephemerisref2_InArcSin.f k B0 B1 Z) true := by
 obtain ⟨X, Y, Z, e, eX', eY', eZ'⟩ := refEq_ev v0 v1 w0 w1
 have cl : ∀ a b x : Int, a ≤ b → a * 1048576 ≤ x + 160 → x ≤ b * 1048576 + 160 → ∃ t, a * 1000000 ≤ t ∧ t ≤ b * 1000000 ∧ x * 1000000 / 1048576 - t ≤ 153 ∧ t - x * 1000000 / 1048576 ≤ 153 := by
  intro a b x hab h1 h2
  by_cases c : x * 1000000 / 1048576 < a * 1000000
  ·exact ⟨a * 1000000, by omega, by omega, by omega, by omega⟩
  ·by_cases d : b * 1000000 < x * 1000000 / 1048576
   ·exact ⟨b * 1000000, by omega, by omega, by omega, by omega⟩
   ·exact ⟨x * 1000000 / 1048576, by omega, by omega, by omega, by omega⟩
 obtain ⟨t, t0, t1, t2, t3⟩ := cl lo hi (v + z * 1048576000000000) hl (by omega) (by omega)
 obtain ⟨s, s0, s1, s2, s3⟩ := cl la lb (w + z' * 1048576000000000) hb (by omega) (by omega)
 obtain ⟨p1, p2, p3⟩ := e_per (t := ag2 v) (t' := (v + z * 1048576000000000) * 1000000 / 1048576) (s := ag2 w) (s' := (w + z' * 1048576000000000) * 1000000 / 1048576) (ag2_mod v z) (ag2_mod w z')
 obtain ⟨n1, n2, n3⟩ := e_near t2 t3 s2 s3
 rw [p1] at eX'
 rw [p2] at eY'
 rw [p3] at eZ'
 obtain ⟨f1, f2⟩ := F t s t0 t1 s0 s1 X Y Z (d_near eX' n1) (d_near eY' n2) (d_near eZ' n3)
 exact ⟨X, Y, Z, e, f1, f2⟩
end Go.Proofs.Ytedakilpogagiaa.EqN
