/- The reference's sine and cosine, by halving and doubling, against the rotation. -/
import Derived.Test.YtmahlfjnejbcnaaTopSeasonsn16
import Derived.Test.YtmahlfjnejbcnaaTopSeasonsn24
namespace Go.Proofs.Ytmahlfjnejbcnaa.RefT
open Go.RowKit YtmahlfjnejbcnaaW.PrintWords YtmahlfjnejbcnaaW.PrintLast Opn PAll Base Turn Fix Oct OctT SinT
set_option linter.unusedVariables false
set_option linter.unusedSimpArgs false
theorem mod_pos {a b : Int} (hb : 0 < b) (hb2 : b ≤ 9223372036854775807) : ephemerisref2_Mod.f a b = some (a % b) := by
 unfold ephemerisref2_Mod.f
 rw [if_neg (by omega)]
 have h1 : a.tmod b = a % b - (if 0 ≤ a ∨ b ∣ a then 0 else b.natAbs) := by
  rw [Int.tmod_eq_emod]
 have h2 := Int.emod_nonneg a (show b ≠ 0 by omega)
 have h3 := Int.emod_lt_of_pos a hb
 by_cases c : 0 ≤ a ∨ b ∣ a
 ·rw [if_pos c] at h1
  rw [h1, if_neg (by omega)]; simp
 ·rw [if_neg c] at h1
  rw [h1, if_pos (by omega), w64 (by omega) (by omega)]
  congr 1; omega
theorem sin_arc : ∀ n : Nat, -(s1 * (n : Rat)) ≤ sinT n ∧ sinT n ≤ s1 * (n : Rat)
 | 0 => by
  have h : sinT 0 = 0 := rfl
  rw [h]
  have : ((0 : Nat) : Rat) = 0 := rfl
  rw [this]; constructor <;> grind
 | n + 1 => by
  obtain ⟨h1, h2⟩ := sin_arc n
  obtain ⟨c1', c2', b1, b2⟩ := T_bound n
  have e : sinT (n + 1) = sinT n * c1 + cosT n * s1 := rfl
  have hc : ((n + 1 : Nat) : Rat) = (n : Rat) + 1 := by push_cast; rfl
  have hn : (0 : Rat) ≤ (n : Rat) := by exact_mod_cast Nat.zero_le n
  rw [e, hc]
  obtain ⟨u1, u2, _, _⟩ := unit_bound step_sq
  have hs := s1_nonneg
  have hcn := c1_nonneg
  generalize hw : s1 * (n : Rat) = w at *
  have hw0 : 0 ≤ w := by rw [← hw]; exact Rat.mul_nonneg hs hn
  have k1 := Rat.mul_le_mul_of_nonneg_left c2' hs
  have k2 := Rat.mul_le_mul_of_nonneg_left c1' hs
  obtain ⟨k3, k4⟩ := abs_mul (a := sinT n) (b := c1) (A := w) (B := 1) (by grind) h2 (by grind) u2
  have e2 : s1 * ((n : Rat) + 1) = w + s1 := by rw [← hw]; grind
  rw [e2]
  constructor <;> grind
def rX (t : Int) : Int := (t * 7244 + t / 1000000 * 19458077 / 1000) / 4096
def sr (t : Int) : Nat := t.toNat * 268435456
theorem sr_eq {t : Int} (h0 : 0 ≤ t) : s1 * (sr t : Rat) = s1 * 268435456 * (t : Rat) := by
 unfold sr
 have e : ((t.toNat * 268435456 : Nat) : Rat) = (t : Rat) * 268435456 := by
  have h : ((t.toNat : Int) : Rat) = (t : Rat) := by rw [Int.toNat_of_nonneg h0]
  push_cast
  have h2 : ((t.toNat : Nat) : Rat) = (t : Rat) := by rw [← h]; rfl
  rw [h2]
 rw [e]; grind
theorem kappa_r : u * (s1 * 268435456) - 7244019458077122842 / 4096000000000000000 ≤ 1 / 1000000000000000 ∧ -(1 / 1000000000000000) ≤ u * (s1 * 268435456) - 7244019458077122842 / 4096000000000000000 := by decide +kernel
theorem sr_bound {t : Int} (h0 : 0 ≤ t) (h1 : t < 1000000000000000) : 0 ≤ s1 * (sr t : Rat) ∧ s1 * (sr t : Rat) ≤ 154 / 100000 := by
 have ha := cle h0
 have hb := cle (show t ≤ 1000000000000000 by omega)
 have k1 : s1 * 268435456 ≤ 154 / 100000000000000000000 := by decide +kernel
 have k2 : 0 ≤ s1 * 268435456 := by decide +kernel
 rw [sr_eq h0]
 generalize s1 * 268435456 = c at *
 push_cast at ha hb
 generalize (t : Rat) = r at *
 have m1 := Rat.mul_nonneg k2 ha
 have m2 := Rat.mul_le_mul_of_nonneg_left hb k2
 constructor <;> grind
theorem rX_bound {t : Int} (h0 : 0 ≤ t) (h1 : t < 1000000000000000) : 0 ≤ rX t ∧ rX t ≤ 1770000000000000 := by unfold rX; omega
theorem rX_err {t : Int} (h0 : 0 ≤ t) (h1 : t < 1000000000000000) : -38 ≤ (rX t : Rat) - u * (s1 * (sr t : Rat)) ∧ (rX t : Rat) - u * (s1 * (sr t : Rat)) ≤ 2 := by
 obtain ⟨k1, k2⟩ := kappa_r
 have ha := cle h0
 have hb := cle (show t ≤ 1000000000000000 by omega)
 have x1 : rX t * 4096000000000 ≤ t * 7244019458077 := by unfold rX; omega
 have x2 : t * 7244019458077 < rX t * 4096000000000 + 4096000000000 + 19458077000000 + 1000000000 := by unfold rX; omega
 have x1 := cle x1
 have x2 := clt x2
 push_cast at x1 x2 ha hb
 rw [sr_eq h0]
 generalize s1 * 268435456 = c at *
 generalize (rX t : Rat) = X at *
 generalize (t : Rat) = r at *
 have m1 := Rat.mul_le_mul_of_nonneg_left k1 ha
 have m2 := Rat.mul_le_mul_of_nonneg_left k2 ha
 constructor <;> grind
def rS0 (t : Int) : Int := rX t - fm (rX t) (fm (rX t) (rX t)) / 6 + fm (fm (rX t) (fm (rX t) (rX t))) (fm (rX t) (rX t)) / 120
def rV0 (t : Int) : Int := fm (rX t) (rX t) / 2 - fm (fm (rX t) (rX t)) (fm (rX t) (rX t)) / 24
theorem fm_err {a b : Int} {x y A B : Rat} (ha : 0 ≤ a) (hb : 0 ≤ b) (ha1 : -A ≤ (a : Rat) - u * x) (ha2 : (a : Rat) - u * x ≤ A) (hb1 : -B ≤ (b : Rat) - u * y) (hb2 : (b : Rat) - u * y ≤ B) (hA : A ≤ 1000000) (hB : B ≤ 1000000)
  {X Y : Rat} (hx0 : 0 ≤ x) (hx1 : x ≤ X) (hy0 : 0 ≤ y) (hy1 : y ≤ Y) : -(X * B + Y * A + 3) ≤ (fm a b : Rat) - u * (x * y) ∧ (fm a b : Rat) - u * (x * y) ≤ X * B + Y * A + 1 := by
 obtain ⟨_, f1, f2⟩ := fm_tells ha hb
 have f1 := cle f1
 have f2 := clt f2
 push_cast at f1 f2
 generalize (fm a b : Rat) = m at *
 generalize (a : Rat) = a' at *
 generalize (b : Rat) = b' at *
 obtain ⟨a1, a2⟩ := abs_mul (a := a' - u * x) (b := b' - u * y) (A := A) (B := B) ha1 ha2 hb1 hb2
 obtain ⟨b1, b2⟩ := abs_mul (a := a' - u * x) (b := y) (A := A) (B := Y) ha1 ha2 (by grind) hy1
 obtain ⟨c1, c2⟩ := abs_mul (a := x) (b := b' - u * y) (A := X) (B := B) (by grind) hx1 hb1 hb2
 have hAB : A * B ≤ 1000000000000 := by
  have hB0 : 0 ≤ B := by grind
  have hA0 : 0 ≤ A := by grind
  have := Rat.mul_le_mul_of_nonneg_left hB hA0
  grind
 have e : a' * b' = u * (u * (x * y) + x * (b' - u * y) + (a' - u * x) * y) + (a' - u * x) * (b' - u * y) := by grind
 have hu := u_eq
 rw [e, ← hu] at f1 f2
 generalize x * y = w at *
 generalize x * (b' - u * y) = p at *
 generalize (a' - u * x) * y = q at *
 generalize (a' - u * x) * (b' - u * y) = r at *
 clear e ha1 ha2 hb1 hb2
 constructor
 ·have k : u * (u * w + p + q - m - 2) ≤ 1000000000000 := by grind
  have := div_bound (d := 1000000000000) (D := u) (z := u * w + p + q - m - 2) (b := 1000000000000) (by rw [hu]; grind) (by grind) (by grind) k
  grind
 ·have k : u * (m - u * w - p - q) ≤ 1000000000000 := by grind
  have := div_bound (d := 1000000000000) (D := u) (z := m - u * w - p - q) (b := 1000000000000) (by rw [hu]; grind) (by grind) (by grind) k
  grind
theorem tiny {n : Nat} (h : s1 * (n : Rat) ≤ 154 / 100000) (h0 : 0 ≤ s1 * (n : Rat)) : u * (sinT n - (s1 * n - s1 * n * (s1 * n * (s1 * n)) / 6 + s1 * n * (s1 * n * (s1 * n)) * (s1 * n * (s1 * n)) / 120)) ≤ 1 ∧ -1 ≤ u * (sinT n - (s1 * n - s1 * n * (s1 * n * (s1 * n)) / 6 + s1 * n * (s1 * n * (s1 * n)) * (s1 * n * (s1 * n)) / 120)) ∧
  u * (1 - cosT n - (s1 * n * (s1 * n) / 2 - s1 * n * (s1 * n) * (s1 * n * (s1 * n)) / 24)) ≤ 1 ∧ -1 ≤ u * (1 - cosT n - (s1 * n * (s1 * n) / 2 - s1 * n * (s1 * n) * (s1 * n * (s1 * n)) / 24)) := by
 obtain ⟨⟨a1, a2⟩, ⟨_, _⟩⟩ := T_taylor 6 n (by grind)
 obtain ⟨⟨_, _⟩, ⟨a3, a4⟩⟩ := T_taylor 7 n (by grind)
 have g0 : g 0 = 1 := by have := g_mul 0; grind
 have g1 : g 1 = 1 / 2 := by have := g_mul 1; have hc : ((1 : Nat) : Rat) = 1 := rfl; rw [hc] at this; grind
 have g2 : g 2 = 1 / 3 := by have := g_mul 2; have hc : ((2 : Nat) : Rat) = 2 := rfl; rw [hc] at this; grind
 have g3 : g 3 = 1 / 4 := by have := g_mul 3; have hc : ((3 : Nat) : Rat) = 3 := rfl; rw [hc] at this; grind
 have g4 : g 4 = 1 / 5 := by have := g_mul 4; have hc : ((4 : Nat) : Rat) = 4 := rfl; rw [hc] at this; grind
 have g5 : g 5 = 1 / 6 := by have := g_mul 5; have hc : ((5 : Nat) : Rat) = 5 := rfl; rw [hc] at this; grind
 have g6 : g 6 = 1 / 7 := by have := g_mul 6; have hc : ((6 : Nat) : Rat) = 6 := rfl; rw [hc] at this; grind
 have d6 : s1 * dd 6 ≤ 1 / 10000000000000000000000 := by decide +kernel
 have d7 : s1 * dd 7 ≤ 1 / 10000000000000000000000 := by decide +kernel
 generalize hy : s1 * (n : Rat) = y at *
 have F1 : F y 1 = y := by show 1 * y * g 0 = y; rw [g0]; grind
 have F2 : F y 2 = y * y / 2 := by show F y 1 * y * g 1 = _; rw [F1, g1]; grind
 have F3 : F y 3 = y * (y * y) / 6 := by show F y 2 * y * g 2 = _; rw [F2, g2]; grind
 have F4 : F y 4 = y * y * (y * y) / 24 := by show F y 3 * y * g 3 = _; rw [F3, g3]; grind
 have F5 : F y 5 = y * (y * y) * (y * y) / 120 := by show F y 4 * y * g 4 = _; rw [F4, g4]; grind
 have F6 : F y 6 = y * y * (y * y) * (y * y) / 720 := by show F y 5 * y * g 5 = _; rw [F5, g5]; grind
 have F7 : F y 7 = y * y * (y * y) * (y * y) * y / 5040 := by show F y 6 * y * g 6 = _; rw [F6, g6]; grind
 have s0 := ca_two 0
 have s1' := ca_two 1
 have s2 := ca_two 2
 have s3 := ca_two 3
 have z0 : sgn 0 = 1 := rfl
 have z1 : sgn 1 = -1 := rfl
 have z2 : sgn 2 = 1 := rfl
 have z3 : sgn 3 = -1 := rfl
 have cP : cosP y 6 = 1 - y * y / 2 + y * y * (y * y) / 24 := by
  show 0 + (ca (2 * 0)).1 * 1 + (ca (2 * 0 + 1)).1 * F y 1 + (ca (2 * 1)).1 * F y 2 + (ca (2 * 1 + 1)).1 * F y 3 + (ca (2 * 2)).1 * F y 4 + (ca (2 * 2 + 1)).1 * F y 5 = _
  rw [s0.1, s0.2, s1'.1, s1'.2, s2.1, s2.2, z0, z1, z2, F2, F4]; grind
 have sP : sinP y 7 = y - y * (y * y) / 6 + y * (y * y) * (y * y) / 120 := by
  show 0 + (ca (2 * 0)).2 * 1 + (ca (2 * 0 + 1)).2 * F y 1 + (ca (2 * 1)).2 * F y 2 + (ca (2 * 1 + 1)).2 * F y 3 + (ca (2 * 2)).2 * F y 4 + (ca (2 * 2 + 1)).2 * F y 5 + (ca (2 * 3)).2 * F y 6 = _
  rw [s0.1, s0.2, s1'.1, s1'.2, s2.1, s2.2, s3.1, z0, z1, z2, z3, F1, F3, F5]; grind
 rw [cP, F6] at a1 a2
 rw [sP, F7] at a3 a4
 have k1 := Rat.mul_le_mul_of_nonneg_left h h0
 have k2 : y * y ≤ 3 / 1000000 := by grind
 have k3 : 0 ≤ y * y := Rat.mul_nonneg h0 h0
 have k4 : 0 ≤ y * y * (y * y) := Rat.mul_nonneg k3 k3
 have k5 := Rat.mul_le_mul_of_nonneg_left k2 k3
 have k6 : y * y * (y * y) ≤ 9 / 1000000000000 := by grind
 have k7 := Rat.mul_le_mul_of_nonneg_left k2 k4
 have k8 : y * y * (y * y) * (y * y) ≤ 27 / 1000000000000000000 := by grind
 have k9 : 0 ≤ y * y * (y * y) * (y * y) := Rat.mul_nonneg k4 k3
 have k10 := Rat.mul_le_mul_of_nonneg_left h k9
 have k11 : y * y * (y * y) * (y * y) * y ≤ 27 / 1000000000000000000 := by grind
 have k12 : 0 ≤ y * y * (y * y) * (y * y) * y := Rat.mul_nonneg k9 h0
 generalize y * y * (y * y) * (y * y) * y = w7 at *
 generalize y * y * (y * y) * (y * y) = w6 at *
 generalize y * (y * y) * (y * y) = w5 at *
 generalize y * y * (y * y) = w4 at *
 generalize y * (y * y) = w3 at *
 generalize y * y = w2 at *
 rw [u_eq]
 refine ⟨?_, ?_, ?_, ?_⟩ <;> grind
theorem ediv_err {m : Int} {d : Int} {w E : Rat} (hd : 0 < d) (h1 : -E ≤ (m : Rat) - w) (h2 : (m : Rat) - w ≤ E) : -(E + (d : Rat)) ≤ (d : Rat) * ((m / d : Int) : Rat) - w ∧ (d : Rat) * ((m / d : Int) : Rat) - w ≤ E := by
 have d1 : d * (m / d) ≤ m := Int.mul_ediv_self_le (by omega)
 have d2 : m < d * (m / d) + d := Int.lt_mul_ediv_self_add hd
 have d1 := cle d1
 have d2 := clt d2
 push_cast at d1 d2
 constructor <;> grind
theorem first_err {t : Int} (h0 : 0 ≤ t) (h1 : t < 1000000000000000) : -45 ≤ (rS0 t : Rat) - u * sinT (sr t) ∧ (rS0 t : Rat) - u * sinT (sr t) ≤ 45 ∧ -6 ≤ (rV0 t : Rat) - u * (1 - cosT (sr t)) ∧ (rV0 t : Rat) - u * (1 - cosT (sr t)) ≤ 6 := by
 obtain ⟨x0, x1⟩ := rX_bound h0 h1
 obtain ⟨e1, e2⟩ := rX_err h0 h1
 obtain ⟨y0, y1⟩ := sr_bound h0 h1
 obtain ⟨t1, t2, t3, t4⟩ := tiny y1 y0
 unfold rS0 rV0
 generalize rX t = X at *
 generalize sinT (sr t) = S at *
 generalize cosT (sr t) = C at *
 generalize s1 * (sr t : Rat) = y at *
 have w0 : 0 ≤ y * y := Rat.mul_nonneg y0 y0
 have w1 : y * y ≤ 1 / 1000 := by have := Rat.mul_le_mul_of_nonneg_left y1 y0; grind
 have v0 : 0 ≤ y * (y * y) := Rat.mul_nonneg y0 w0
 have v1 : y * (y * y) ≤ 1 / 1000 := by have := Rat.mul_le_mul_of_nonneg_left w1 y0; grind
 have q0 := (fm_tells x0 x0).1
 obtain ⟨q1, q2⟩ := fm_err (A := 38) (B := 38) x0 x0 (x := y) (y := y) (by grind) (by grind) (by grind) (by grind) (by grind) (by grind) (X := 154 / 100000) (Y := 154 / 100000) y0 y1 y0 y1
 generalize hq : fm X X = q at *
 have p0 := (fm_tells x0 q0).1
 obtain ⟨p1, p2⟩ := fm_err (a := X) (b := q) (A := 38) (B := 4) x0 q0 (x := y) (y := y * y) (by grind) (by grind) (by grind) (by grind) (by grind) (by grind) (X := 154 / 100000) (Y := 1 / 1000) y0 y1 w0 w1
 generalize hp : fm X q = p at *
 obtain ⟨r1, r2⟩ := fm_err (a := p) (b := q) (A := 4) (B := 4) p0 q0 (x := y * (y * y)) (y := y * y) (by grind) (by grind) (by grind) (by grind) (by grind) (by grind) (X := 1 / 1000) (Y := 1 / 1000) v0 v1 w0 w1
 generalize hr : fm p q = r at *
 obtain ⟨z1, z2⟩ := fm_err (a := q) (b := q) (A := 4) (B := 4) q0 q0 (x := y * y) (y := y * y) (by grind) (by grind) (by grind) (by grind) (by grind) (by grind) (X := 1 / 1000) (Y := 1 / 1000) w0 w1 w0 w1
 generalize hz : fm q q = z at *
 obtain ⟨d1, d2⟩ := ediv_err (m := p) (d := 6) (w := u * (y * (y * y))) (E := 4) (by omega) (by grind) (by grind)
 obtain ⟨d3, d4⟩ := ediv_err (m := r) (d := 120) (w := u * (y * (y * y) * (y * y))) (E := 4) (by omega) (by grind) (by grind)
 obtain ⟨d5, d6⟩ := ediv_err (m := q) (d := 2) (w := u * (y * y)) (E := 4) (by omega) (by grind) (by grind)
 obtain ⟨d7, d8⟩ := ediv_err (m := z) (d := 24) (w := u * (y * y * (y * y))) (E := 4) (by omega) (by grind) (by grind)
 push_cast at d1 d2 d3 d4 d5 d6 d7 d8 ⊢
 generalize ((p / 6 : Int) : Rat) = P at *
 generalize ((r / 120 : Int) : Rat) = R at *
 generalize ((q / 2 : Int) : Rat) = Q at *
 generalize ((z / 24 : Int) : Rat) = Z at *
 generalize (X : Rat) = x at *
 generalize y * (y * y) * (y * y) = y5 at *
 generalize y * (y * y) = y3 at *
 generalize y * y * (y * y) = y4 at *
 generalize y * y = y2 at *
 rw [u_eq] at *
 clear q1 q2 p1 p2 r1 r2 z1 z2
 refine ⟨?_, ?_, ?_, ?_⟩ <;> grind
theorem rm_err {a b : Int} {x y A B X Y : Rat} (ha1 : -A ≤ (a : Rat) - u * x) (ha2 : (a : Rat) - u * x ≤ A) (hb1 : -B ≤ (b : Rat) - u * y) (hb2 : (b : Rat) - u * y ≤ B) (hA : A ≤ 10000000) (hB : B ≤ 10000000)
  (hx0 : -X ≤ x) (hx1 : x ≤ X) (hy0 : -Y ≤ y) (hy1 : y ≤ Y) : -(X * B + Y * A + 3) ≤ (rm a b : Rat) - u * (x * y) ∧ (rm a b : Rat) - u * (x * y) ≤ X * B + Y * A + 3 := by
 obtain ⟨f1, f2⟩ := rm_tells a b
 have f1 := clt f1
 have f2 := clt f2
 push_cast at f1 f2
 generalize (rm a b : Rat) = m at *
 generalize (a : Rat) = a' at *
 generalize (b : Rat) = b' at *
 obtain ⟨a1, a2⟩ := abs_mul (a := a' - u * x) (b := b' - u * y) (A := A) (B := B) ha1 ha2 hb1 hb2
 obtain ⟨b1, b2⟩ := abs_mul (a := a' - u * x) (b := y) (A := A) (B := Y) ha1 ha2 hy0 hy1
 obtain ⟨c1, c2⟩ := abs_mul (a := x) (b := b' - u * y) (A := X) (B := B) hx0 hx1 hb1 hb2
 have hAB : A * B ≤ 100000000000000 := by
  have hB0 : 0 ≤ B := by grind
  have hA0 : 0 ≤ A := by grind
  have := Rat.mul_le_mul_of_nonneg_left hB hA0
  grind
 have e : a' * b' = u * (u * (x * y) + x * (b' - u * y) + (a' - u * x) * y) + (a' - u * x) * (b' - u * y) := by grind
 have hu := u_eq
 rw [e, ← hu] at f1 f2
 generalize x * y = w at *
 generalize x * (b' - u * y) = p at *
 generalize (a' - u * x) * y = q at *
 generalize (a' - u * x) * (b' - u * y) = r at *
 clear e ha1 ha2 hb1 hb2
 constructor
 ·have k : u * (u * w + p + q - m - 2) ≤ 100000000000000 := by grind
  have := div_bound (d := 100000000000000) (D := u) (z := u * w + p + q - m - 2) (b := 100000000000000) (by rw [hu]; grind) (by grind) (by grind) k
  grind
 ·have k : u * (m - u * w - p - q - 2) ≤ 100000000000000 := by grind
  have := div_bound (d := 100000000000000) (D := u) (z := m - u * w - p - q - 2) (b := 100000000000000) (by rw [hu]; grind) (by grind) (by grind) k
  grind
theorem int_of_rat {s : Int} {b : Int} (h : (s : Rat) ≤ (b : Rat)) : s ≤ b := by
 rcases (show s ≤ b ∨ b + 1 ≤ s by omega) with h1 | h1
 ·exact h1
 ·have := cle h1
  push_cast at this
  grind
def rs (t : Int) : Nat → Int × Int
 | 0 => (rS0 t, rV0 t)
 | j + 1 => (2 * rm (rs t j).1 (1152921504606846976 - (rs t j).2), 2 * rm (rs t j).1 (rs t j).1)
def Bq : Nat → Rat
 | 0 => 154 / 100000
 | j + 1 => if 2 * Bq j ≤ 1 then 2 * Bq j else 1
def Eb : Nat → Rat × Rat
 | 0 => (45, 6)
 | j + 1 => (2 * ((Eb j).1 + Bq j * (Eb j).2 + 3), 2 * (2 * Bq j * (Eb j).1 + 3))
theorem Eb_small {j : Nat} (h : j ≤ 12) : (Eb j).1 ≤ 1600000 ∧ (Eb j).2 ≤ 1600000 ∧ 0 ≤ (Eb j).1 ∧ 0 ≤ (Eb j).2 := by
 have : ∀ j : Fin 13, (Eb j.1).1 ≤ 1600000 ∧ (Eb j.1).2 ≤ 1600000 ∧ 0 ≤ (Eb j.1).1 ∧ 0 ≤ (Eb j.1).2 := by decide +kernel
 exact this ⟨j, by omega⟩
theorem Bq_le : ∀ j, 0 ≤ Bq j ∧ Bq j ≤ 1
 | 0 => by unfold Bq; constructor <;> grind
 | j + 1 => by
  obtain ⟨h1, h2⟩ := Bq_le j
  unfold Bq
  split <;> constructor <;> grind
def mm (t : Int) : Nat → Nat
 | 0 => sr t
 | j + 1 => mm t j + mm t j
theorem rs_zero (t : Int) : rs t 0 = (rS0 t, rV0 t) := by rw [rs]
theorem rs_succ1 (t : Int) (j : Nat) : (rs t (j + 1)).1 = 2 * rm (rs t j).1 (1152921504606846976 - (rs t j).2) := by rw [rs]
theorem rs_succ2 (t : Int) (j : Nat) : (rs t (j + 1)).2 = 2 * rm (rs t j).1 (rs t j).1 := by rw [rs]
theorem mm_zero (t : Int) : mm t 0 = sr t := by rw [mm]
theorem mm_succ (t : Int) (j : Nat) : mm t (j + 1) = mm t j + mm t j := by rw [mm]
theorem Eb_zero : Eb 0 = (45, 6) := by rw [Eb]
theorem Eb_succ1 (j : Nat) : (Eb (j + 1)).1 = 2 * ((Eb j).1 + Bq j * (Eb j).2 + 3) := by rw [Eb]
theorem Eb_succ2 (j : Nat) : (Eb (j + 1)).2 = 2 * (2 * Bq j * (Eb j).1 + 3) := by rw [Eb]
theorem Bq_zero : Bq 0 = 154 / 100000 := by rw [Bq]
theorem Bq_succ (j : Nat) : Bq (j + 1) = if 2 * Bq j ≤ 1 then 2 * Bq j else 1 := by rw [Bq]
theorem step_err {s v : Int} {S C E G B : Rat} (a1 : -E ≤ (s : Rat) - u * S) (a2 : (s : Rat) - u * S ≤ E) (a3 : -G ≤ (v : Rat) - u * (1 - C)) (a4 : (v : Rat) - u * (1 - C) ≤ G) (a5 : -B ≤ S) (a6 : S ≤ B)
  (s1' : E ≤ 1600000) (s2' : G ≤ 1600000) (q1 : 0 ≤ B) (q2 : B ≤ 1) (c1' : -1 ≤ C) (c2' : C ≤ 1) :
  (-(2 * (E + B * G + 3)) ≤ ((2 * rm s (1152921504606846976 - v) : Int) : Rat) - u * (2 * (S * C)) ∧ ((2 * rm s (1152921504606846976 - v) : Int) : Rat) - u * (2 * (S * C)) ≤ 2 * (E + B * G + 3)) ∧
  (-(2 * (2 * B * E + 3)) ≤ ((2 * rm s s : Int) : Rat) - u * (2 * (S * S)) ∧ ((2 * rm s s : Int) : Rat) - u * (2 * (S * S)) ≤ 2 * (2 * B * E + 3)) := by
 have hb1 : -G ≤ ((1152921504606846976 - v : Int) : Rat) - u * C := by push_cast; rw [u_eq] at *; grind
 have hb2 : ((1152921504606846976 - v : Int) : Rat) - u * C ≤ G := by push_cast; rw [u_eq] at *; grind
 obtain ⟨m1, m2⟩ := rm_err (a := s) (b := 1152921504606846976 - v) (x := S) (y := C) (A := E) (B := G) (X := B) (Y := 1) a1 a2 hb1 hb2 (by grind) (by grind) a5 a6 c1' c2'
 obtain ⟨m3, m4⟩ := rm_err (a := s) (b := s) (x := S) (y := S) (A := E) (B := E) (X := B) (Y := B) a1 a2 a1 a2 (by grind) (by grind) a5 a6 a5 a6
 push_cast
 clear hb1 hb2 a1 a2 a3 a4
 generalize rm s (1152921504606846976 - v) = r1 at *
 generalize rm s s = r2 at *
 refine ⟨⟨?_, ?_⟩, ⟨?_, ?_⟩⟩
 ·grind
 ·grind
 ·grind
 ·grind
theorem step_size {S C B : Rat} (a5 : -B ≤ S) (a6 : S ≤ B) (c1 : -1 ≤ C) (c2 : C ≤ 1) (c3 : -1 ≤ S) (c4 : S ≤ 1) (cq : C * C + S * S = 1) : -(if 2 * B ≤ 1 then 2 * B else 1) ≤ 2 * (S * C) ∧ 2 * (S * C) ≤ (if 2 * B ≤ 1 then 2 * B else 1) := by
 obtain ⟨m5, m6⟩ := abs_mul a5 a6 c1 c2
 have k1 : 0 ≤ (S - C) * (S - C) := by
  rcases (Rat.le_total : S - C ≤ 0 ∨ 0 ≤ S - C) with h | h
  ·have := Rat.mul_nonneg (show 0 ≤ -(S - C) by grind) (show 0 ≤ -(S - C) by grind); grind
  ·exact Rat.mul_nonneg h h
 have k2 : 0 ≤ (S + C) * (S + C) := by
  rcases (Rat.le_total : S + C ≤ 0 ∨ 0 ≤ S + C) with h | h
  ·have := Rat.mul_nonneg (show 0 ≤ -(S + C) by grind) (show 0 ≤ -(S + C) by grind); grind
  ·exact Rat.mul_nonneg h h
 have m8 : 2 * (S * C) ≤ 1 := by grind
 have m7 : -1 ≤ 2 * (S * C) := by grind
 clear k1 k2 cq
 generalize S * C = P at *
 constructor
 ·split <;> grind
 ·split <;> grind
theorem le_of {a b c : Rat} (h : a ≤ b) (e : b ≤ c) : a ≤ c := by grind
theorem neg_of {a b c : Rat} (h : -b ≤ a) (e : b ≤ c) : -c ≤ a := by grind
def Near (E : Rat × Rat) (B : Rat) (r : Int × Int) (m : Nat) : Prop := (-E.1 ≤ (r.1 : Rat) - u * sinT m ∧ (r.1 : Rat) - u * sinT m ≤ E.1) ∧ (-E.2 ≤ (r.2 : Rat) - u * (1 - cosT m) ∧ (r.2 : Rat) - u * (1 - cosT m) ≤ E.2) ∧ (-B ≤ sinT m ∧ sinT m ≤ B)
theorem near_zero {t : Int} (h0 : 0 ≤ t) (h1 : t < 1000000000000000) : Near (45, 6) (154 / 100000) (rS0 t, rV0 t) (sr t) := by
 obtain ⟨a1, a2, a3, a4⟩ := first_err h0 h1
 obtain ⟨y0, y1⟩ := sr_bound h0 h1
 obtain ⟨b1, b2⟩ := sin_arc (sr t)
 exact ⟨⟨a1, a2⟩, ⟨a3, a4⟩, neg_of b1 y1, le_of b2 y1⟩
theorem near_double {E : Rat × Rat} {B : Rat} {s v : Int} {m : Nat} (h : Near E B (s, v) m) (s1' : E.1 ≤ 1600000) (s2' : E.2 ≤ 1600000) (q1 : 0 ≤ B) (q2 : B ≤ 1) :
  Near (2 * (E.1 + B * E.2 + 3), 2 * (2 * B * E.1 + 3)) (if 2 * B ≤ 1 then 2 * B else 1) (2 * rm s (1152921504606846976 - v), 2 * rm s s) (m + m) := by
 obtain ⟨⟨a1, a2⟩, ⟨a3, a4⟩, ⟨a5, a6⟩⟩ := h
 obtain ⟨c1', c2', c3', c4'⟩ := T_bound m
 have es : sinT (m + m) = 2 * (sinT m * cosT m) := by rw [sinT_add]; grind
 have ec : 1 - cosT (m + m) = 2 * (sinT m * sinT m) := by
  rw [cosT_add]
  have := T_sq m
  grind
 obtain ⟨⟨g1, g2⟩, g3, g4⟩ := step_err a1 a2 a3 a4 a5 a6 s1' s2' q1 q2 c1' c2'
 obtain ⟨g5, g6⟩ := step_size a5 a6 c1' c2' c3' c4' (T_sq m)
 unfold Near
 rw [es, ec]
 exact ⟨⟨g1, g2⟩, ⟨g3, g4⟩, g5, g6⟩
theorem rs_near {t : Int} (h0 : 0 ≤ t) (h1 : t < 1000000000000000) : ∀ j, j ≤ 12 → Near (Eb j) (Bq j) (rs t j) (mm t j)
 | 0, _ => by
  rw [rs_zero, mm_zero, Eb_zero, Bq_zero]
  exact near_zero h0 h1
 | j + 1, hj => by
  obtain ⟨s1', s2', _, _⟩ := Eb_small (show j ≤ 12 by omega)
  obtain ⟨q1, q2⟩ := Bq_le j
  have h := near_double (rs_near h0 h1 j (by omega)) s1' s2' q1 q2
  rw [← Eb_succ1, ← Eb_succ2, ← Bq_succ, ← rs_succ1, ← rs_succ2, ← mm_succ] at h
  exact h
theorem rs_err {t : Int} (h0 : 0 ≤ t) (h1 : t < 1000000000000000) (j : Nat) (hj : j ≤ 12) : (-(Eb j).1 ≤ ((rs t j).1 : Rat) - u * sinT (mm t j) ∧ ((rs t j).1 : Rat) - u * sinT (mm t j) ≤ (Eb j).1) ∧ (-(Eb j).2 ≤ ((rs t j).2 : Rat) - u * (1 - cosT (mm t j)) ∧ ((rs t j).2 : Rat) - u * (1 - cosT (mm t j)) ≤ (Eb j).2) ∧ (-Bq j ≤ sinT (mm t j) ∧ sinT (mm t j) ≤ Bq j) := rs_near h0 h1 j hj
theorem rs_bound {t : Int} (h0 : 0 ≤ t) (h1 : t < 1000000000000000) (j : Nat) (hj : j ≤ 12) : -1152921504608446976 ≤ (rs t j).1 ∧ (rs t j).1 ≤ 1152921504608446976 ∧ -1600000 ≤ (rs t j).2 ∧ (rs t j).2 ≤ 2305843009215293952 := by
 obtain ⟨⟨a1, a2⟩, ⟨a3, a4⟩, _⟩ := rs_err h0 h1 j hj
 obtain ⟨s1', s2', _, _⟩ := Eb_small hj
 obtain ⟨c1', c2', c3', c4'⟩ := T_bound (mm t j)
 rw [u_eq] at *
 generalize (Eb j).1 = E at *
 generalize (Eb j).2 = G at *
 generalize sinT (mm t j) = S at *
 generalize cosT (mm t j) = C at *
 refine ⟨int_of_rat ?_, int_of_rat ?_, int_of_rat ?_, int_of_rat ?_⟩
 all_goals push_cast; grind
theorem rs_run {t : Int} (h0 : 0 ≤ t) (h1 : t < 1000000000000000) : ∀ (i j : Nat), j + i = 12 → ∀ f, ephemerisref2_SinCos.l0 (f + i + 1) (rs t j).1 (rs t j).2 (j : Int) = some ((rs t 12).1, 1152921504606846976 - (rs t 12).2)
 | 0, j, h, f => by
  obtain rfl : j = 12 := by omega
  obtain ⟨b1, b2, b3, b4⟩ := rs_bound h0 h1 12 (by omega)
  rw [ephemerisref2_SinCos.l0, if_neg (by omega), w64 (by omega) (by omega)]
 | i + 1, j, h, f => by
  obtain ⟨b1, b2, b3, b4⟩ := rs_bound h0 h1 j (by omega)
  obtain ⟨b5, b6, b7, b8⟩ := rs_bound h0 h1 (j + 1) (by omega)
  have := rs_run h0 h1 i (j + 1) (by omega) f
  have r1 := rs_succ1 t j
  have r2 := rs_succ2 t j
  rw [r1] at b5 b6
  rw [r2] at b7 b8
  rw [show f + (i + 1) + 1 = (f + i + 1) + 1 by omega, ephemerisref2_SinCos.l0, if_pos (by omega), w64 (x := 1152921504606846976 - (rs t j).2) (by omega) (by omega), ref_mul_ok (by omega) (by omega) (by omega) (by omega), Option.bind_some, ref_mul_ok (by omega) (by omega) (by omega) (by omega), Option.bind_some,
   w64 (x := 2 * rm (rs t j).1 (1152921504606846976 - (rs t j).2)) (by omega) (by omega), w64 (x := 2 * rm (rs t j).1 (rs t j).1) (by omega) (by omega), w64 (x := (j : Int) + 1) (by omega) (by omega), ← r1, ← r2]
  rwa [show ((j + 1 : Nat) : Int) = (j : Int) + 1 by push_cast; rfl] at this
def ag (t : Int) : Nat := t.toNat * 1099511627776
theorem mm_ag (t : Int) : mm t 12 = ag t := by
 have e : ∀ j, mm t j = 2 ^ j * sr t := by
  intro j
  induction j with
  | zero => rw [mm_zero, Nat.pow_zero, Nat.one_mul]
  | succ j ih => rw [mm_succ, ih, Nat.pow_succ, Nat.mul_comm (2 ^ j) 2, Nat.mul_assoc, Nat.two_mul]
 rw [e]
 unfold sr ag
 rw [show (2 : Nat) ^ 12 = 4096 from rfl, Nat.mul_comm 4096, Nat.mul_assoc]
theorem fm_zero_le {a b : Int} (ha : 0 ≤ a) (hb : 0 ≤ b) (hb2 : b ≤ 1152921504606846976) : 0 ≤ fm a b ∧ fm a b ≤ a := ⟨(fm_tells ha hb).1, fm_le ha hb hb2⟩
theorem rm_nn {a b : Int} (ha : 0 ≤ a) (hb : 0 ≤ b) : rm a b = fm a b := by
 have e1 : ¬ a < 0 := by omega
 have e2 : ¬ b < 0 := by omega
 unfold rm
 simp [e1, e2]
theorem cos_flip {V : Int} {C E : Rat} (h1 : -E ≤ (V : Rat) - u * (1 - C)) (h2 : (V : Rat) - u * (1 - C) ≤ E) : -E ≤ ((1152921504606846976 - V : Int) : Rat) - u * C ∧ ((1152921504606846976 - V : Int) : Rat) - u * C ≤ E := by
 push_cast
 rw [u_eq] at *
 constructor <;> grind
theorem first_sin {X q p r : Int} (q0 : 0 ≤ X ∧ X ≤ 2000000000000000) (p0 : 0 ≤ p ∧ p ≤ 2000000000000000) (r0 : 0 ≤ r ∧ r ≤ 2000000000000000) : wrap64 (wrap64 (X - wrap64 (Int.tdiv p 6)) + wrap64 (Int.tdiv r 120)) = X - p / 6 + r / 120 := by
 rw [Int.tdiv_eq_ediv_of_nonneg p0.1, Int.tdiv_eq_ediv_of_nonneg r0.1, w64 (x := p / 6) (by omega) (by omega), w64 (x := X - p / 6) (by omega) (by omega), w64 (x := r / 120) (by omega) (by omega), w64 (by omega) (by omega)]
theorem first_ver {q z : Int} (q0 : 0 ≤ q ∧ q ≤ 2000000000000000) (z0 : 0 ≤ z ∧ z ≤ 2000000000000000) : wrap64 (wrap64 (Int.tdiv q 2) - wrap64 (Int.tdiv z 24)) = q / 2 - z / 24 := by
 rw [Int.tdiv_eq_ediv_of_nonneg q0.1, Int.tdiv_eq_ediv_of_nonneg z0.1, w64 (x := q / 2) (by omega) (by omega), w64 (x := z / 24) (by omega) (by omega), w64 (by omega) (by omega)]
theorem ref_nn {a b : Int} (ha : 0 ≤ a) (ha2 : a ≤ 2000000000000000) (hb : 0 ≤ b) (hb2 : b ≤ 2000000000000000) : ephemerisref2_Mul.f a b = some (fm a b) ∧ 0 ≤ fm a b ∧ fm a b ≤ 2000000000000000 := by
 rw [ref_mul_ok (by omega) (by omega) (by omega) (by omega), rm_nn ha hb]
 obtain ⟨h1, h2⟩ := fm_zero_le ha hb (by omega)
 exact ⟨rfl, h1, by omega⟩
theorem sincos_first {t : Int} (h0 : 0 ≤ t) (h1 : t < 1000000000000000) : (wrap64 ((wrap64 (t * 7244)) + (wrap64 (Int.tdiv (wrap64 ((wrap64 (Int.tdiv t 1000000)) * 19458077)) 1000)))) / 4096 = rX t := by
 rw [Int.tdiv_eq_ediv_of_nonneg h0, w64 (x := t / 1000000) (by omega) (by omega), w64 (x := t / 1000000 * 19458077) (by omega) (by omega), Int.tdiv_eq_ediv_of_nonneg (show 0 ≤ t / 1000000 * 19458077 by omega), w64 (x := t / 1000000 * 19458077 / 1000) (by omega) (by omega), w64 (x := t * 7244) (by omega) (by omega), w64 (by omega) (by omega), rX]
theorem sincos_run {a : Int} {t : Int} (ht : a % 1000000000000000 = t) (ha : -9223372036854775808 ≤ a) (f : Nat) : ephemerisref2_SinCos.f (f + 13) a = some ((rs t 12).1, 1152921504606846976 - (rs t 12).2) := by
 have h0 : 0 ≤ t := by omega
 have h1 : t < 1000000000000000 := by omega
 obtain ⟨x0, x1⟩ := rX_bound h0 h1
 have hm : ephemerisref2_Mod.f a 1000000000000000 = some t := by rw [mod_pos (by omega) (by omega), ht]
 have run := rs_run h0 h1 12 0 rfl f
 rw [rs_zero, rS0, rV0] at run
 unfold ephemerisref2_SinCos.f
 rw [hm, Option.bind_some, sincos_first h0 h1]
 generalize rX t = X at *
 obtain ⟨e1, q0, q1⟩ := ref_nn x0 (by omega) x0 (by omega)
 rw [e1, Option.bind_some]
 obtain ⟨e2, p0, p1⟩ := ref_nn x0 (by omega) q0 q1
 rw [e2, Option.bind_some, Option.bind_some]
 obtain ⟨e3, r0, r1⟩ := ref_nn p0 p1 q0 q1
 rw [e3, Option.bind_some]
 obtain ⟨e4, z0, z1⟩ := ref_nn q0 q1 q0 q1
 rw [e4, Option.bind_some, first_sin (q := 0) ⟨x0, by omega⟩ ⟨p0, p1⟩ ⟨r0, r1⟩, first_ver ⟨q0, q1⟩ ⟨z0, z1⟩]
 exact run
end Go.Proofs.Ytmahlfjnejbcnaa.RefT
