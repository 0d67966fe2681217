/- ArcSin: the angles of sines, out of directions (root, sine). -/
import Derived.Test.YtmahlfjnejbcnaaTopSeasonsn44
import Derived.Test.YtmahlfjnejbcnaaTopSeasonsn46
namespace Go.Proofs.Ytmahlfjnejbcnaa.ArcSinT
open Go.RowKit YtmahlfjnejbcnaaW.PrintWords YtmahlfjnejbcnaaW.PrintLast YtmahlfjnejbcnaaW.PrintMore Opn PAll Base Turn Fix Oct OctT SinT RefT Circ Over Units Cone Arcs ArcT RootT
set_option linter.unusedVariables false
set_option linter.unusedSimpArgs false
theorem small_S {k : Int} (h1 : -4000000 ≤ k) (h2 : k ≤ 4000000) : -(26 / 1000000000) ≤ S k ∧ S k ≤ 26 / 1000000000 ∧ 99 / 100 ≤ C k := by
 have q : kap * ((4000000 : Int) : Rat) + 1 / 1000000000000000000 ≤ 26 / 1000000000 := by decide +kernel
 rcases Int.lt_or_le k 0 with c | c
 ·obtain ⟨a1, a2⟩ := S_lip (a := k) (b := 0) (by omega)
  obtain ⟨b1, b2⟩ := C_lip (a := k) (b := 0) (by omega)
  have m : kap * ((0 - k : Int) : Rat) ≤ kap * ((4000000 : Int) : Rat) := Rat.mul_le_mul_of_nonneg_left (cle (by omega)) (by decide +kernel)
  rw [S_zero] at a1 a2
  rw [C_zero] at b1 b2
  generalize kap * ((0 - k : Int) : Rat) = x at *
  generalize kap * ((4000000 : Int) : Rat) = y at *
  generalize S k = s at *
  generalize C k = c' at *
  refine ⟨?_, ?_, ?_⟩ <;> grind
 ·obtain ⟨a1, a2⟩ := S_lip (a := 0) (b := k) c
  obtain ⟨b1, b2⟩ := C_lip (a := 0) (b := k) c
  have m : kap * ((k - 0 : Int) : Rat) ≤ kap * ((4000000 : Int) : Rat) := Rat.mul_le_mul_of_nonneg_left (cle (by omega)) (by decide +kernel)
  rw [S_zero] at a1 a2
  rw [C_zero] at b1 b2
  generalize kap * ((k - 0 : Int) : Rat) = x at *
  generalize kap * ((4000000 : Int) : Rat) = y at *
  generalize S k = s at *
  generalize C k = c' at *
  refine ⟨?_, ?_, ?_⟩ <;> grind
theorem sides_small {l : Int} {y x M : Rat} (M0 : 0 ≤ M) (y1 : -M ≤ y) (y2 : y ≤ M) (x1 : -M ≤ x) (x2 : x ≤ M) (p0 : 0 ≤ cr (l * 1000000) y x) (q0 : 0 ≤ -cr ((l + 3) * 1000000) y x) : cr (l * 1000000) y x ≤ 1 / 20000000 * M ∧ -cr ((l + 3) * 1000000) y x ≤ 1 / 20000000 * M := by
 obtain ⟨_, d1, d2⟩ := cone l (l * 1000000) y1 y2 x1 x2
 rw [show (l + 3) * 1000000 - l * 1000000 = 3 * 1000000 by omega, show l * 1000000 - l * 1000000 = 0 by omega, C_zero] at d1 d2
 obtain ⟨t1, t2⟩ := S_three
 obtain ⟨_, _, c3⟩ := small_S (k := 3 * 1000000) (by omega) (by omega)
 have db : dt (l * 1000000) y x ≤ 2 * M := by
  obtain ⟨b1, b2, b3, b4⟩ := SC_bound (l * 1000000)
  obtain ⟨e1, e2⟩ := abs_mul b1 b2 x1 x2
  obtain ⟨e3, e4⟩ := abs_mul b3 b4 y1 y2
  unfold dt
  generalize C (l * 1000000) * x = u1 at *
  generalize S (l * 1000000) * y = u2 at *
  clear p0 q0 d1 d2
  grind
 generalize cr (l * 1000000) y x = p at *
 generalize -cr ((l + 3) * 1000000) y x = q at *
 generalize dt (l * 1000000) y x = D at *
 generalize S (3 * 1000000) = s at *
 generalize C (3 * 1000000) = c at *
 have k1 := Rat.mul_le_mul_of_nonneg_left db (show 0 ≤ s by grind)
 have k2 := Rat.mul_le_mul_of_nonneg_left t2 (show 0 ≤ 2 * M by grind)
 have k3 := Rat.mul_le_mul_of_nonneg_left c3 p0
 generalize s * D = z at *
 generalize p * c = v at *
 constructor <;> grind
theorem near_parts {l a : Int} {y x M : Rat} (M0 : 0 ≤ M) (y1 : -M ≤ y) (y2 : y ≤ M) (x1 : -M ≤ x) (x2 : x ≤ M) (p0 : 0 ≤ cr (l * 1000000) y x) (q0 : 0 ≤ -cr ((l + 3) * 1000000) y x) (a1 : l - 1 ≤ a) (a2 : a ≤ l + 4) : -(2 / 10000000 * M) ≤ cr (a * 1000000) y x ∧ cr (a * 1000000) y x ≤ 2 / 10000000 * M ∧ -(1 / 1000000000 * M) ≤ dt (a * 1000000) y x := by
 obtain ⟨p1, q1⟩ := sides_small M0 y1 y2 x1 x2 p0 q0
 obtain ⟨⟨c1, c2⟩, d1, d2⟩ := cone l (a * 1000000) y1 y2 x1 x2
 obtain ⟨s1, s2, s3⟩ := small_S (k := (l + 3) * 1000000 - a * 1000000) (by omega) (by omega)
 obtain ⟨s4, s5, s6⟩ := small_S (k := l * 1000000 - a * 1000000) (by omega) (by omega)
 obtain ⟨t1, t2⟩ := S_three
 generalize cr (l * 1000000) y x = p at *
 generalize -cr ((l + 3) * 1000000) y x = q at *
 generalize cr (a * 1000000) y x = X at *
 generalize dt (a * 1000000) y x = Y at *
 generalize S (3 * 1000000) = s at *
 generalize S ((l + 3) * 1000000 - a * 1000000) = u1 at *
 generalize S (l * 1000000 - a * 1000000) = u2 at *
 generalize C ((l + 3) * 1000000 - a * 1000000) = v1 at *
 generalize C (l * 1000000 - a * 1000000) = v2 at *
 obtain ⟨e1, e2⟩ := abs_mul (a := p) (b := u1) (A := 1 / 20000000 * M) (B := 26 / 1000000000) (by grind) p1 s1 s2
 obtain ⟨e3, e4⟩ := abs_mul (a := q) (b := u2) (A := 1 / 20000000 * M) (B := 26 / 1000000000) (by grind) q1 s4 s5
 have e5 := Rat.mul_nonneg p0 (show 0 ≤ v1 by grind)
 have e6 := Rat.mul_nonneg q0 (show 0 ≤ v2 by grind)
 generalize p * u1 = z1 at *
 generalize q * u2 = z2 at *
 generalize p * v1 = z3 at *
 generalize q * v2 = z4 at *
 clear p0 q0 p1 q1 s1 s2 s3 s4 s5 s6 y1 y2 x1 x2
 refine ⟨?_, ?_, ?_⟩
 ·refine sign_of (W := 0) M0 t1 ?_ (by decide +kernel)
  clear d1 d2
  grind
 ·have : -(2 / 10000000 * M) ≤ -X := by
   refine sign_of (W := 0) (s := s) M0 t1 ?_ (by decide +kernel)
   have e : s * -X = -(s * X) := by grind
   rw [e]
   clear d1 d2
   grind
  grind
 ·refine sign_of (W := 0) M0 t1 ?_ (by decide +kernel)
  clear c1 c2
  grind
theorem along {c s z r X Y : Rat} (h : c * c + s * s = 1) (eX : X = c * z - s * r) (eY : Y = c * r + s * z) (R1 : 1000000000000000000 - 2000000001 ≤ z * z + r * r) (R2 : z * z + r * r ≤ 1000000000000000000) (X1 : -200 ≤ X) (X2 : X ≤ 200) (Y0 : -1 ≤ Y) : 1000000000 - 11 / 10 ≤ Y ∧ Y ≤ 1000000000 := by
 have e : X * X + Y * Y = z * z + r * r := by
  rw [eX, eY]
  have : (c * z - s * r) * (c * z - s * r) + (c * r + s * z) * (c * r + s * z) = (c * c + s * s) * (z * z + r * r) := by grind
  rw [this, h]; grind
 obtain ⟨k1, k2⟩ := abs_mul X1 X2 X1 X2
 have k3 := sq_nonneg X
 have y1 : 1000000000000000000 - 2000040001 ≤ Y * Y := by grind
 have y2 : Y * Y ≤ 1000000000000000000 := by grind
 clear eX eY e R1 R2 k1 k2 k3 X1 X2 h
 constructor
 ·rcases (Rat.le_total : 1000000000 - 11 / 10 ≤ Y ∨ Y ≤ 1000000000 - 11 / 10) with t | t
  ·exact t
  ·exfalso
   rcases (Rat.le_total : 0 ≤ Y ∨ Y ≤ 0) with n | n
   ·have m1 := Rat.mul_le_mul_of_nonneg_left t n
    have m2 := Rat.mul_le_mul_of_nonneg_left t (show (0 : Rat) ≤ 1000000000 - 11 / 10 by decide +kernel)
    grind
   ·have m1 := abs_mul (a := Y) (b := Y) (A := 1) (B := 1) Y0 (by grind) Y0 (by grind)
    grind
 ·rcases (Rat.le_total : Y ≤ 1000000000 ∨ 1000000000 ≤ Y) with t | t
  ·exact t
  ·have m1 := Rat.mul_le_mul_of_nonneg_left t (show 0 ≤ Y by grind)
   have m2 := Rat.mul_le_mul_of_nonneg_left t (show (0 : Rat) ≤ 1000000000 by decide +kernel)
   grind
theorem sin_lo_rat {c s z r X Y : Rat} (h : c * c + s * s = 1) (eX : X = c * z - s * r) (eY : Y = c * r + s * z) (Y1 : 1000000000 - 11 / 10 ≤ Y) (Y2 : Y ≤ 1000000000) (X1 : -(1 / 10) ≤ X) (X2 : X ≤ 200) (c0 : -(1 / 1000000000000) ≤ c) (c1 : c ≤ 1) (s1 : -1 ≤ s) (s2 : s ≤ 1) : 1000000000 * s ≤ z + 2 := by
 have e : z = c * X + s * Y := by
  rw [eX, eY]
  have : c * (c * z - s * r) + s * (c * r + s * z) = (c * c + s * s) * z := by grind
  rw [this, h]; grind
 have k1 : -(2 / 10) ≤ c * X := by
  rcases (Rat.le_total : 0 ≤ c ∨ c ≤ 0) with n | n
  ·have := Rat.mul_le_mul_of_nonneg_left X1 n
   grind
  ·have := Rat.mul_le_mul_of_nonneg_left X2 (show 0 ≤ -c by grind)
   grind
 have k2 : 1000000000 * s - 11 / 10 ≤ s * Y := by
  rcases (Rat.le_total : 0 ≤ s ∨ s ≤ 0) with n | n
  ·have := Rat.mul_le_mul_of_nonneg_left Y1 n
   grind
  ·have := Rat.mul_le_mul_of_nonneg_left Y2 (show 0 ≤ -s by grind)
   grind
 rw [e]
 generalize c * X = v at *
 generalize s * Y = w at *
 clear e eX eY h
 grind
theorem sin_hi_rat {c s z r X Y : Rat} (h : c * c + s * s = 1) (eX : X = c * z - s * r) (eY : Y = c * r + s * z) (Y1 : 1000000000 - 11 / 10 ≤ Y) (Y2 : Y ≤ 1000000000) (X1 : -200 ≤ X) (X2 : X ≤ 1 / 10) (c0 : -(1 / 1000000000000) ≤ c) (c1 : c ≤ 1) (s1 : -1 ≤ s) (s2 : s ≤ 1) : z ≤ 1000000000 * s + 2 := by
 have e : z = c * X + s * Y := by
  rw [eX, eY]
  have : c * (c * z - s * r) + s * (c * r + s * z) = (c * c + s * s) * z := by grind
  rw [this, h]; grind
 have k1 : c * X ≤ 2 / 10 := by
  rcases (Rat.le_total : 0 ≤ c ∨ c ≤ 0) with n | n
  ·have := Rat.mul_le_mul_of_nonneg_left X2 n
   grind
  ·have := Rat.mul_le_mul_of_nonneg_left X1 (show 0 ≤ -c by grind)
   grind
 have k2 : s * Y ≤ 1000000000 * s + 11 / 10 := by
  rcases (Rat.le_total : 0 ≤ s ∨ s ≤ 0) with n | n
  ·have := Rat.mul_le_mul_of_nonneg_left Y2 n
   grind
  ·have := Rat.mul_le_mul_of_nonneg_left Y1 (show 0 ≤ -s by grind)
   grind
 rw [e]
 generalize c * X = v at *
 generalize s * Y = w at *
 clear e eX eY h
 grind
theorem C_quarter {a : Int} (h1 : -250000000 ≤ a) (h2 : a ≤ 250000000) : -(1 / 1000000000000) ≤ C (a * 1000000) := by
 have q : -(1 / 1000000000000000000) ≤ C 250000000000000 := by
  have e : C 250000000000000 = cosT n4 := by unfold C; rw [show (250000000000000 : Int) % 1000000000000000 = 250000000000000 by omega, ag_quarter]
  rw [e]
  have := T4.1
  generalize cosT n4 = x at *
  grind
 rcases Int.lt_or_le a 0 with c | c
 ·have d := C_dec (a := -(a * 1000000)) (b := 250000000000000) (by omega) (by omega) (by omega)
  obtain ⟨_, n1, n2⟩ := SC_neg (a * 1000000)
  generalize C (-(a * 1000000)) = x at *
  generalize C (a * 1000000) = y at *
  generalize C 250000000000000 = z at *
  grind
 ·have d := C_dec (a := a * 1000000) (b := 250000000000000) (by omega) (by omega) (by omega)
  generalize C (a * 1000000) = y at *
  generalize C 250000000000000 = z at *
  grind
theorem root_len {z r : Int} (z1 : -1000000000 ≤ z) (z2 : z ≤ 1000000000) (h0 : 0 ≤ r) (h1 : r * r ≤ 1000000000000000000 - z * z) (h2 : 1000000000000000000 - z * z < (r + 1) * (r + 1)) : r ≤ 1000000000 ∧ 1000000000000000000 - 2000000001 ≤ (z : Rat) * (z : Rat) + (r : Rat) * (r : Rat) ∧ (z : Rat) * (z : Rat) + (r : Rat) * (r : Rat) ≤ 1000000000000000000 ∧ (z ≠ 0 ∨ r ≠ 0) := by
 have hz : 0 ≤ z * z := by
  rcases Int.lt_or_le z 0 with n | n
  ·have := Int.mul_nonneg (show 0 ≤ -z by omega) (show 0 ≤ -z by omega)
   rw [Int.neg_mul_neg] at this; exact this
  ·exact Int.mul_nonneg n n
 have hr : r ≤ 1000000000 := by
  rcases Int.lt_or_le 1000000000 r with n | n
  ·have := Int.mul_le_mul (show 1000000001 ≤ r by omega) (show 1000000001 ≤ r by omega) (by omega) h0
   omega
  ·exact n
 have e : (r + 1) * (r + 1) = r * r + 2 * r + 1 := by rw [Int.add_mul, Int.mul_add]; omega
 rw [e] at h2
 refine ⟨hr, ?_, ?_, ?_⟩
 ·have := cle (show 1000000000000000000 - 2000000001 ≤ z * z + r * r by omega)
  push_cast at this ⊢
  grind
 ·have := cle (show z * z + r * r ≤ 1000000000000000000 by omega)
  push_cast at this ⊢
  grind
 ·rcases Int.lt_trichotomy z 0 with n | n | n
  ·left; omega
  ·right
   intro hr0
   rw [n, hr0] at h2
   omega
  ·left; omega
structure Sin (l z r : Int) : Prop where
 lo : ∀ a, l - 1 ≤ a → a ≤ l → -250000000 ≤ a → a ≤ 250000000 → 1000000000 * S (a * 1000000) ≤ (z : Rat) + 2
 hi : ∀ a, l + 3 ≤ a → a ≤ l + 4 → -250000000 ≤ a → a ≤ 250000000 → (z : Rat) ≤ 1000000000 * S (a * 1000000) + 2
theorem sin_of {l z r : Int} (A : At l z r) (hr : r ≤ 1000000000) (h0 : 0 ≤ r) (z1 : -1000000000 ≤ z) (z2 : z ≤ 1000000000) (R1 : 1000000000000000000 - 2000000001 ≤ (z : Rat) * (z : Rat) + (r : Rat) * (r : Rat)) (R2 : (z : Rat) * (z : Rat) + (r : Rat) * (r : Rat) ≤ 1000000000000000000) : Sin l z r := by
 obtain ⟨M, b, m1, m2, m3, m4, m5, m6⟩ := A
 have M1 : M ≤ 1000000000 := by omega
 have M1' := cle M1
 have e9 : ((1000000000 : Int) : Rat) = 1000000000 := rfl
 rw [e9] at M1'
 have M0 := r0 (show 0 ≤ M by omega)
 have mm := Rat.mul_nonneg (show (0 : Rat) ≤ 190 / 100000000000 by decide +kernel) M0
 have p0 : 0 ≤ cr (l * 1000000) (z : Rat) (r : Rat) := Rat.le_trans mm b.2.1
 have q0 := nn_of mm b.2.2
 have N := fun a a1 a2 => near_parts (l := l) (a := a) M0 (neg_le_cast m1) (cle m2) (neg_le_cast m3) (cle m4) p0 q0 a1 a2
 constructor
 ·intro a a1 a2 a3 a4
  obtain ⟨n1, n2, n3⟩ := N a a1 (by omega)
  have ic := (in_cone (lo := a) (hi := l + 3) M0 (neg_le_cast m1) (cle m2) (neg_le_cast m3) (cle m4) mm b a2 (by omega) (by omega)).1
  obtain ⟨_, c1, s1, s2⟩ := SC_bound (a * 1000000)
  have Y := along (SC_sq (a * 1000000)) rfl rfl R1 R2 (X := cr (a * 1000000) (z : Rat) (r : Rat)) (Y := dt (a * 1000000) (z : Rat) (r : Rat))
  have hX1 : -200 ≤ cr (a * 1000000) (z : Rat) (r : Rat) := by
   refine Rat.le_trans ?_ n1
   clear n1 n2 n3 ic Y R1 R2; grind
  have hX2 : cr (a * 1000000) (z : Rat) (r : Rat) ≤ 200 := by
   refine Rat.le_trans n2 ?_
   clear n1 n2 n3 ic Y R1 R2; grind
  have hX3 : -(1 / 10) ≤ cr (a * 1000000) (z : Rat) (r : Rat) := by
   refine Rat.le_trans ?_ ic
   clear n1 n2 n3 ic Y R1 R2; grind
  have hY0 : -1 ≤ dt (a * 1000000) (z : Rat) (r : Rat) := by
   refine Rat.le_trans ?_ n3
   clear n1 n2 n3 ic Y R1 R2; grind
  obtain ⟨Y1, Y2⟩ := Y hX1 hX2 hY0
  exact sin_lo_rat (SC_sq (a * 1000000)) rfl rfl Y1 Y2 hX3 hX2 (C_quarter a3 a4) c1 s1 s2
 ·intro a a1 a2 a3 a4
  obtain ⟨n1, n2, n3⟩ := N a (by omega) a2
  have ic := (in_cone (lo := l) (hi := a) M0 (neg_le_cast m1) (cle m2) (neg_le_cast m3) (cle m4) mm b (by omega) a1 (by omega)).2.1
  obtain ⟨_, c1, s1, s2⟩ := SC_bound (a * 1000000)
  have Y := along (SC_sq (a * 1000000)) rfl rfl R1 R2 (X := cr (a * 1000000) (z : Rat) (r : Rat)) (Y := dt (a * 1000000) (z : Rat) (r : Rat))
  have hX1 : -200 ≤ cr (a * 1000000) (z : Rat) (r : Rat) := by
   refine Rat.le_trans ?_ n1
   clear n1 n2 n3 ic Y R1 R2; grind
  have hX2 : cr (a * 1000000) (z : Rat) (r : Rat) ≤ 200 := by
   refine Rat.le_trans n2 ?_
   clear n1 n2 n3 ic Y R1 R2; grind
  have hX3 : cr (a * 1000000) (z : Rat) (r : Rat) ≤ 1 / 10 := by
   refine Rat.le_trans ic ?_
   clear n1 n2 n3 ic Y R1 R2; grind
  have hY0 : -1 ≤ dt (a * 1000000) (z : Rat) (r : Rat) := by
   refine Rat.le_trans ?_ n3
   clear n1 n2 n3 ic Y R1 R2; grind
  obtain ⟨Y1, Y2⟩ := Y hX1 hX2 hY0
  exact sin_hi_rat (SC_sq (a * 1000000)) rfl rfl Y1 Y2 hX1 hX3 (C_quarter a3 a4) c1 s1 s2
theorem along_at {l a z r : Int} (A : At l z r) (hr : r ≤ 1000000000) (h0 : 0 ≤ r) (z1 : -1000000000 ≤ z) (z2 : z ≤ 1000000000) (R1 : 1000000000000000000 - 2000000001 ≤ (z : Rat) * (z : Rat) + (r : Rat) * (r : Rat)) (R2 : (z : Rat) * (z : Rat) + (r : Rat) * (r : Rat) ≤ 1000000000000000000) (a1 : l - 1 ≤ a) (a2 : a ≤ l + 4) : 999999998 ≤ dt (a * 1000000) (z : Rat) (r : Rat) ∧ dt (a * 1000000) (z : Rat) (r : Rat) ≤ 1000000000 := by
 obtain ⟨M, b, m1, m2, m3, m4, m5, m6⟩ := A
 have M1' := cle (show M ≤ 1000000000 by omega)
 have e9 : ((1000000000 : Int) : Rat) = 1000000000 := rfl
 rw [e9] at M1'
 have M0 := r0 (show 0 ≤ M by omega)
 have mm := Rat.mul_nonneg (show (0 : Rat) ≤ 190 / 100000000000 by decide +kernel) M0
 have p0 : 0 ≤ cr (l * 1000000) (z : Rat) (r : Rat) := Rat.le_trans mm b.2.1
 have q0 := nn_of mm b.2.2
 obtain ⟨n1, n2, n3⟩ := near_parts (l := l) (a := a) M0 (neg_le_cast m1) (cle m2) (neg_le_cast m3) (cle m4) p0 q0 a1 a2
 have Y := along (SC_sq (a * 1000000)) rfl rfl R1 R2 (X := cr (a * 1000000) (z : Rat) (r : Rat)) (Y := dt (a * 1000000) (z : Rat) (r : Rat))
 have hX1 : -200 ≤ cr (a * 1000000) (z : Rat) (r : Rat) := by
  refine Rat.le_trans ?_ n1
  clear n1 n2 n3 Y R1 R2; grind
 have hX2 : cr (a * 1000000) (z : Rat) (r : Rat) ≤ 200 := by
  refine Rat.le_trans n2 ?_
  clear n1 n2 n3 Y R1 R2; grind
 have hY0 : -1 ≤ dt (a * 1000000) (z : Rat) (r : Rat) := by
  refine Rat.le_trans ?_ n3
  clear n1 n2 n3 Y R1 R2; grind
 obtain ⟨Y1, Y2⟩ := Y hX1 hX2 hY0
 exact ⟨Rat.le_trans (by decide +kernel) Y1, Y2⟩
theorem C_wide : 56 / 100 ≤ C 155000000000000 := by
 have e : C 155000000000000 = cosT (ag 155000000000000) := by unfold C; rw [show (155000000000000 : Int) % 1000000000000000 = 155000000000000 by omega]
 obtain ⟨⟨a1, a2⟩, _⟩ := T_taylor 24 (ag 155000000000000) (by decide +kernel)
 have e1 : F (s1 * ((ag 155000000000000 : Nat) : Rat)) 24 + s1 * dd 24 ≤ 1 / 100000000000000 := by decide +kernel
 have e2 : 5610 / 10000 ≤ cosP (s1 * ((ag 155000000000000 : Nat) : Rat)) 24 := by decide +kernel
 rw [e]
 generalize F (s1 * ((ag 155000000000000 : Nat) : Rat)) 24 + s1 * dd 24 = x at *
 generalize cosP (s1 * ((ag 155000000000000 : Nat) : Rat)) 24 = y at *
 generalize cosT (ag 155000000000000) = z at *
 clear e
 grind
theorem C_72 : 3 / 10 ≤ C 200000000000000 := by
 have e : C 100000000000000 = cosT (ag 100000000000000) := by unfold C; rw [show (100000000000000 : Int) % 1000000000000000 = 100000000000000 by omega]
 obtain ⟨⟨a1, a2⟩, _⟩ := T_taylor 24 (ag 100000000000000) (by decide +kernel)
 have e1 : F (s1 * ((ag 100000000000000 : Nat) : Rat)) 24 + s1 * dd 24 ≤ 1 / 100000000000000 := by decide +kernel
 have e2 : 8090 / 10000 ≤ cosP (s1 * ((ag 100000000000000 : Nat) : Rat)) 24 := by decide +kernel
 obtain ⟨_, d1, d2⟩ := SC_add 100000000000000 100000000000000
 rw [show (100000000000000 : Int) + 100000000000000 = 200000000000000 by omega] at d1 d2
 have sq := SC_sq 100000000000000
 rw [← e] at a1 a2
 generalize F (s1 * ((ag 100000000000000 : Nat) : Rat)) 24 + s1 * dd 24 = x at *
 generalize cosP (s1 * ((ag 100000000000000 : Nat) : Rat)) 24 = y at *
 generalize C 200000000000000 = w at *
 generalize C 100000000000000 = z at *
 generalize S 100000000000000 = v at *
 clear e
 have hz : 8089 / 10000 ≤ z := by grind
 have := Rat.mul_le_mul_of_nonneg_left hz (show (0 : Rat) ≤ 8089 / 10000 by decide +kernel)
 have := Rat.mul_le_mul_of_nonneg_left hz (show 0 ≤ z by grind)
 grind
theorem sin_apart {a b : Int} (hb : -250000000 ≤ b) (ha : a ≤ 250000000) (h : 190000000 ≤ a - b) : S (b * 1000000) + 1 / 2 ≤ S (a * 1000000) := by
 have em : (a + b) * 500000 + (a - b) * 500000 = a * 1000000 := by omega
 have en : (a + b) * 500000 - (a - b) * 500000 = b * 1000000 := by omega
 have d1 : 95000000000000 ≤ (a - b) * 500000 := by omega
 have d2 : (a - b) * 500000 ≤ 250000000000000 := by omega
 have m1 : -155000000000000 ≤ (a + b) * 500000 := by omega
 have m2 : (a + b) * 500000 ≤ 155000000000000 := by omega
 generalize (a + b) * 500000 = m at *
 generalize (a - b) * 500000 = d at *
 have h1 := (SC_add m d).1
 have h2 := (diff_pair m d).1
 rw [em] at h1
 rw [en] at h2
 have w := C_wide
 have cm : 55 / 100 ≤ C m := by
  rcases Int.lt_or_le m 0 with c | c
  ·have k := C_dec (a := -m) (b := 155000000000000) (by omega) (by omega) (by omega)
   obtain ⟨_, n1, n2⟩ := SC_neg m
   generalize C (-m) = x at *
   generalize C m = y at *
   generalize C 155000000000000 = z at *
   clear h1 h2
   grind
  ·have k := C_dec (a := m) (b := 155000000000000) c m2 (by omega)
   generalize C m = y at *
   generalize C 155000000000000 = z at *
   clear h1 h2
   grind
 have sd : 55 / 100 ≤ S d := by
  have k := C_dec (a := 250000000000000 - d) (b := 155000000000000) (by omega) (by omega) (by omega)
  obtain ⟨⟨n1, n2⟩, _⟩ := quarter_minus d
  generalize C (250000000000000 - d) = x at *
  generalize S d = y at *
  generalize C 155000000000000 = z at *
  clear h1 h2 cm
  grind
 obtain ⟨h1, h3⟩ := h1
 obtain ⟨h2, h4⟩ := h2
 generalize S (a * 1000000) = A at *
 generalize S (b * 1000000) = B at *
 generalize S m = sm at *
 generalize C m = cm' at *
 generalize S d = sd' at *
 generalize C d = cd' at *
 have k1 := Rat.mul_le_mul_of_nonneg_left sd (show 0 ≤ cm' by grind)
 clear w em en d1 d2 m1 m2
 generalize sm * cd' = z1 at *
 generalize cm' * sd' = z2 at *
 grind
theorem cross_rat {c s z r z' r' : Rat} (h : c * c + s * s = 1) : r * z' - z * r' = (c * r + s * z) * (c * z' - s * r') - (c * z - s * r) * (c * r' + s * z') := by
 have : (c * r + s * z) * (c * z' - s * r') - (c * z - s * r) * (c * r' + s * z') = (c * c + s * s) * (r * z' - z * r') := by grind
 rw [this, h]; grind
theorem order_rat {X Y X' Y' M M' : Rat} (h : 0 ≤ Y * X' - X * Y') (M0 : 700000000 ≤ M) (M0' : 700000000 ≤ M') (M2 : M' ≤ 1000000000) (M3 : M ≤ 1000000000) (x1 : 190 / 100000000000 * M ≤ X) (x2 : X' ≤ 1 / 10000000000 * M') (y1 : 0 ≤ Y) (y2 : Y ≤ 1000000000) (y3 : 290000000 ≤ Y') : False := by
 have hX : 13 / 10 ≤ X := by grind
 have hX' : X' ≤ 1 / 10 := by grind
 have k1 : Y * X' ≤ Y * (1 / 10) := Rat.mul_le_mul_of_nonneg_left hX' y1
 have k2 := Rat.mul_le_mul_of_nonneg_left y3 (show 0 ≤ X by grind)
 generalize Y * X' = p at *
 generalize X * Y' = q at *
 grind
theorem sq_mono {p q r r' : Int} (h0 : 0 ≤ r) (h1 : 0 ≤ r') (h : p ≤ q) (a : r * r ≤ p) (b : q < (r' + 1) * (r' + 1)) : r ≤ r' := by
 have := sq_lt (x := r) (y := r' + 1) (by omega) (by omega) h0
 omega
theorem cross_nonneg {z z' r r' : Int} (h0 : 0 ≤ r) (h1 : 0 ≤ r') (hz : z ≤ z') (a : r * r ≤ 1000000000000000000 - z * z) (b : 1000000000000000000 - z * z < (r + 1) * (r + 1)) (a' : r' * r' ≤ 1000000000000000000 - z' * z') (b' : 1000000000000000000 - z' * z' < (r' + 1) * (r' + 1)) : 0 ≤ r * z' - z * r' := by
 rcases Int.lt_or_le z 0 with c | c
 ·rcases Int.lt_or_le z' 0 with d | d
  ·have k := Int.mul_le_mul (show -z' ≤ -z by omega) (show -z' ≤ -z by omega) (by omega) (by omega)
   rw [Int.neg_mul_neg, Int.neg_mul_neg] at k
   have m := sq_mono h0 h1 (show 1000000000000000000 - z * z ≤ 1000000000000000000 - z' * z' by omega) a b'
   have q := Int.mul_le_mul (show -z' ≤ -z by omega) m h0 (by omega)
   rw [Int.neg_mul, Int.neg_mul, Int.mul_comm z' r] at q
   omega
  ·have q1 := Int.mul_nonneg h0 d
   have q2 := Int.mul_nonneg (show 0 ≤ -z by omega) h1
   rw [Int.neg_mul] at q2
   omega
 ·have k := Int.mul_le_mul hz hz c (by omega)
  have m := sq_mono h1 h0 (show 1000000000000000000 - z' * z' ≤ 1000000000000000000 - z * z by omega) a' b
  have q := Int.mul_le_mul hz m h1 (by omega)
  rw [Int.mul_comm z' r] at q
  omega
theorem dt_far {l a : Int} {y x M : Rat} (M0 : 0 ≤ M) (M1 : M ≤ 1000000000) (y1 : -M ≤ y) (y2 : y ≤ M) (x1 : -M ≤ x) (x2 : x ≤ M) (p0 : 0 ≤ cr (l * 1000000) y x) (q0 : 0 ≤ -cr ((l + 3) * 1000000) y x) (Y1 : 999999998 ≤ dt (l * 1000000) y x) (a1 : l + 3 ≤ a) (a2 : a ≤ l + 200000000) : 290000000 ≤ dt (a * 1000000) y x := by
 obtain ⟨_, d1, d2⟩ := cone l (l * 1000000) y1 y2 x1 x2
 rw [show (l + 3) * 1000000 - l * 1000000 = 3 * 1000000 by omega, show l * 1000000 - l * 1000000 = 0 by omega, C_zero] at d1 d2
 obtain ⟨_, e1, e2⟩ := cone l (a * 1000000) y1 y2 x1 x2
 obtain ⟨t1, t2⟩ := S_three
 have c0 := C_le_one (3 * 1000000)
 have k1 := C_dec (a := -((l + 3) * 1000000 - a * 1000000)) (b := 200000000000000) (by omega) (by omega) (by omega)
 have k2 := C_dec (a := -(l * 1000000 - a * 1000000)) (b := 200000000000000) (by omega) (by omega) (by omega)
 obtain ⟨_, n1, n2⟩ := SC_neg ((l + 3) * 1000000 - a * 1000000)
 obtain ⟨_, n3, n4⟩ := SC_neg (l * 1000000 - a * 1000000)
 have w := C_72
 have v1 : 299 / 1000 ≤ C ((l + 3) * 1000000 - a * 1000000) := by
  generalize C (-((l + 3) * 1000000 - a * 1000000)) = g1 at *
  generalize C ((l + 3) * 1000000 - a * 1000000) = g2 at *
  generalize C 200000000000000 = g3 at *
  clear d1 d2 e1 e2 k2 n3 n4
  grind
 have v2 : 299 / 1000 ≤ C (l * 1000000 - a * 1000000) := by
  generalize C (-(l * 1000000 - a * 1000000)) = g1 at *
  generalize C (l * 1000000 - a * 1000000) = g2 at *
  generalize C 200000000000000 = g3 at *
  clear d1 d2 e1 e2 k1 n1 n2
  grind
 clear k1 k2 n1 n2 n3 n4 w
 generalize cr (l * 1000000) y x = p at *
 generalize -cr ((l + 3) * 1000000) y x = q at *
 generalize dt (l * 1000000) y x = D at *
 generalize dt (a * 1000000) y x = E at *
 generalize S (3 * 1000000) = s at *
 generalize C (3 * 1000000) = c at *
 generalize C ((l + 3) * 1000000 - a * 1000000) = u1 at *
 generalize C (l * 1000000 - a * 1000000) = u2 at *
 have h1 := Rat.mul_le_mul_of_nonneg_left Y1 (show 0 ≤ s by grind)
 have h2 := Rat.mul_le_mul_of_nonneg_left c0 p0
 have h3 := Rat.mul_le_mul_of_nonneg_left v1 p0
 have h4 := Rat.mul_le_mul_of_nonneg_left v2 q0
 have h5 : s * (295 / 1000 * 999999998) ≤ s * E + 1 / 1000000000 := by
  generalize s * D = z1 at *
  generalize p * c = z2 at *
  generalize p * u1 = z3 at *
  generalize q * u2 = z4 at *
  generalize s * E = z5 at *
  clear y1 y2 x1 x2 v1 v2 c0 Y1
  grind
 rcases (Rat.le_total : 290000000 ≤ E ∨ E ≤ 290000000) with g | g
 ·exact g
 ·exfalso
  have h6 := Rat.mul_le_mul_of_nonneg_left g (show 0 ≤ s by grind)
  generalize s * E = z5 at *
  clear h1 h2 h3 h4 d1 d2 e1 e2
  grind
theorem sin_order {l l' z z' r r' : Int} (A : At l z r) (A' : At l' z' r') (B : Sin l z r) (B' : Sin l' z' r') (h0 : 0 ≤ r) (h1 : 0 ≤ r') (hz : z ≤ z') (z1 : -1000000000 ≤ z) (z2 : z' ≤ 1000000000) (a : r * r ≤ 1000000000000000000 - z * z) (b : 1000000000000000000 - z * z < (r + 1) * (r + 1)) (a' : r' * r' ≤ 1000000000000000000 - z' * z') (b' : 1000000000000000000 - z' * z' < (r' + 1) * (r' + 1))
  (l1 : -250000002 ≤ l) (l2 : l ≤ 249999999) (l3 : -250000002 ≤ l') (l4 : l' ≤ 249999999) : l ≤ l' + 5 := by
 rcases Int.lt_or_le (l' + 5) l with c | c
 ·exfalso
  obtain ⟨g1, g2, g3, _⟩ := root_len z1 (by omega) h0 a b
  obtain ⟨g4, g5, g6, _⟩ := root_len (by omega) z2 h1 a' b'
  by_cases d : l ≤ l' + 200000000
  ·obtain ⟨Y1, Y2⟩ := along_at (a := l) A g1 h0 z1 (by omega) g2 g3 (by omega) (by omega)
   obtain ⟨Y1', _⟩ := along_at (a := l') A' g4 h1 (by omega) z2 g5 g6 (by omega) (by omega)
   obtain ⟨M, bt, m1, m2, m3, m4, m5, m6⟩ := A
   obtain ⟨M', bt', n1, n2, n3, n4, n5, n6⟩ := A'
   have cn := cross_nonneg h0 h1 hz a b a' b'
   have cn' := cle cn
   push_cast at cn'
   have z0 : ((0 : Int) : Rat) = 0 := rfl
   have e9 : ((1000000000 : Int) : Rat) = 1000000000 := rfl
   have e7 : ((700000000 : Int) : Rat) = 700000000 := rfl
   rw [cross_rat (SC_sq (l * 1000000))] at cn'
   have M0' := r0 (show 0 ≤ M' by omega)
   have mm' := Rat.mul_nonneg (show (0 : Rat) ≤ 190 / 100000000000 by decide +kernel) M0'
   have big : ∀ (M z r : Int), -M ≤ z → z ≤ M → -M ≤ r → r ≤ M → 0 < M → 0 ≤ r → 1000000000000000000 - z * z < (r + 1) * (r + 1) → 700000000 ≤ M := by
    intro M z r m1 m2 m3 m4 m5 h0 b
    rcases Int.lt_or_le M 700000000 with t | t
    ·exfalso
     have k1 := Int.mul_le_mul (show r + 1 ≤ 700000000 by omega) (show r + 1 ≤ 700000000 by omega) (by omega) (by omega)
     have k2 : z * z ≤ 700000000 * 700000000 := by
      rcases Int.lt_or_le z 0 with s | s
      ·have := Int.mul_le_mul (show -z ≤ 700000000 by omega) (show -z ≤ 700000000 by omega) (by omega) (by omega)
       rw [Int.neg_mul_neg] at this; exact this
      ·exact Int.mul_le_mul (by omega) (by omega) s (by omega)
     omega
    ·exact t
   have B1 := cle (big M z r m1 m2 m3 m4 m5 h0 b)
   have B2 := cle (big M' z' r' n1 n2 n3 n4 n5 h1 b')
   have B3 := cle (show M ≤ 1000000000 by omega)
   have B4 := cle (show M' ≤ 1000000000 by omega)
   rw [e7] at B1 B2
   rw [e9] at B3 B4
   have ic := (in_cone (lo := l') (hi := l) M0' (neg_le_cast n1) (cle n2) (neg_le_cast n3) (cle n4) mm' bt' (by omega) (by omega) (by omega)).2.1
   have df := dt_far (l := l') (a := l) M0' B4 (neg_le_cast n1) (cle n2) (neg_le_cast n3) (cle n4) (Rat.le_trans mm' bt'.2.1) (nn_of mm' bt'.2.2) Y1' (by omega) d
   exact order_rat cn' B1 B2 B4 B3 bt.2.1 ic (Rat.le_trans (by decide +kernel) Y1) Y2 df
  ·have k1 := B.lo (l - 1) (by omega) (by omega) (by omega) (by omega)
   have k2 := B'.hi (l' + 4) (by omega) (by omega) (by omega) (by omega)
   have k3 := sin_apart (a := l - 1) (b := l' + 4) (by omega) (by omega) (by omega)
   have k4 := cle hz
   generalize S ((l - 1) * 1000000) = s at *
   generalize S ((l' + 4) * 1000000) = t at *
   generalize (z : Rat) = p at *
   generalize (z' : Rat) = q at *
   clear g2 g3 g5 g6
   grind
 ·exact c
theorem S_q : Nr (S (250000000 * 1000000) - 1) (1 / 1000000000000000000) ∧ Nr (S (-250000000 * 1000000) + 1) (1 / 1000000000000000000) := by
 have h1 := (quarter_at 0).1
 have h2 := (SC_neg (250000000 * 1000000)).1
 rw [show (0 : Int) + 250000000000000 = 250000000 * 1000000 by omega, C_zero] at h1
 rw [show -(250000000 * 1000000 : Int) = -250000000 * 1000000 by omega] at h2
 unfold Nr at *
 generalize S (250000000 * 1000000) = x at *
 generalize S (-250000000 * 1000000) = y at *
 refine ⟨⟨?_, ?_⟩, ⟨?_, ?_⟩⟩ <;> grind
def cp (a : Int) : Int := mx (-1000000000) (mn 1000000000 a)
theorem cp_bound (a : Int) : -1000000000 ≤ cp a ∧ cp a ≤ 1000000000 := by unfold cp mx mn; (repeat' split) <;> omega
theorem cp_mono {a b : Int} (h : a ≤ b) : cp a ≤ cp b := by unfold cp mx mn; (repeat' split) <;> omega
structure Arcs (A B x y : Int) : Prop where
 a0 : -250000000 ≤ A
 b0 : B ≤ 250000000
 le : A ≤ B
 lo : 1000000000 * S (A * 1000000) ≤ (x : Rat) + 2
 hi : (y : Rat) ≤ 1000000000 * S (B * 1000000) + 2
 wide : x = y → B - A ≤ 5
theorem root_of {z : Int} (h1 : -1000000000 ≤ z) (h2 : z ≤ 1000000000) : ∃ r l, Ev (fun k => trig_root.f k (1000000000000000000 - z * z)) r ∧ Ev (fun k => trig_direction.f k z r) (l, l + 3) ∧ At l z r ∧ Sin l z r ∧ 0 ≤ r ∧ r * r ≤ 1000000000000000000 - z * z ∧ 1000000000000000000 - z * z < (r + 1) * (r + 1) ∧ -250000002 ≤ l ∧ l ≤ 249999999 ∧ 0 ≤ z * z ∧ z * z ≤ 1000000000000000000 := by
 have hz : 0 ≤ z * z ∧ z * z ≤ 1000000000 * 1000000000 := by
  rcases Int.lt_or_le z 0 with n | n
  ·have k1 := Int.mul_nonneg (show 0 ≤ -z by omega) (show 0 ≤ -z by omega)
   have k2 := Int.mul_le_mul (show -z ≤ 1000000000 by omega) (show -z ≤ 1000000000 by omega) (by omega) (by omega)
   rw [Int.neg_mul_neg] at k1 k2
   exact ⟨k1, k2⟩
  ·exact ⟨Int.mul_nonneg n n, Int.mul_le_mul h2 h2 n (by omega)⟩
 obtain ⟨r, e, r0, r1, r2⟩ := root_ev (a := 1000000000000000000 - z * z) (by omega) (by omega)
 obtain ⟨g1, g2, g3, g4⟩ := root_len h1 h2 r0 r1 r2
 obtain ⟨l, e2, A, l1, l2, l3⟩ := dir_ev (y := z) (x := r) (by omega) (by omega) (by omega) (by omega) g4
 obtain ⟨l4, l5⟩ := l3 r0
 exact ⟨r, l, e, e2, A, sin_of A g1 r0 h1 h2 g2 g3, r0, r1, r2, l4, l5, hz.1, by omega⟩
end Go.Proofs.Ytmahlfjnejbcnaa.ArcSinT
