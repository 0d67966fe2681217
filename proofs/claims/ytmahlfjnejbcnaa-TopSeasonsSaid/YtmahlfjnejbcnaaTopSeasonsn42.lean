/- Directions and angles: how far a direction lies from that of an angle; cones; the program's direction. -/
import Derived.Test.YtmahlfjnejbcnaaTopSeasonsn41
namespace Go.Proofs.Ytmahlfjnejbcnaa.Cone
open Go.RowKit YtmahlfjnejbcnaaW.PrintWords YtmahlfjnejbcnaaW.PrintLast YtmahlfjnejbcnaaW.PrintMore Opn PAll Base Turn Fix Oct OctT SinT RefT Circ Over Units Acute
set_option linter.unusedVariables false
set_option linter.unusedSimpArgs false
def cr (a : Int) (y x : Rat) : Rat := C a * y - S a * x
def dt (a : Int) (y x : Rat) : Rat := C a * x + S a * y
theorem nr_mul {a e M y : Rat} (h : Nr a e) (h1 : -M ≤ y) (h2 : y ≤ M) : Nr (a * y) (e * M) := by
 obtain ⟨a1, a2⟩ := h
 exact abs_mul a1 a2 h1 h2
theorem rot {a b : Int} {y x M : Rat} (y1 : -M ≤ y) (y2 : y ≤ M) (x1 : -M ≤ x) (x2 : x ≤ M) : Nr (cr (a + b) y x - (C b * cr a y x - S b * dt a y x)) (1 / 40000000000000000000 * M) ∧ Nr (dt (a + b) y x - (C b * dt a y x + S b * cr a y x)) (1 / 40000000000000000000 * M) := by
 obtain ⟨h1, h2⟩ := SC_add a b
 obtain ⟨p1, p2⟩ := nr_mul h1 x1 x2
 obtain ⟨p3, p4⟩ := nr_mul h1 y1 y2
 obtain ⟨p5, p6⟩ := nr_mul h2 x1 x2
 obtain ⟨p7, p8⟩ := nr_mul h2 y1 y2
 unfold cr dt Nr
 generalize S (a + b) = Z at *
 generalize C (a + b) = W at *
 generalize S a = s at *
 generalize C a = c at *
 generalize S b = s' at *
 generalize C b = c' at *
 have e1 : W * y - Z * x - (c' * (c * y - s * x) - s' * (c * x + s * y)) = (W - (c * c' - s * s')) * y - (Z - (s * c' + c * s')) * x := by grind
 have e2 : W * x + Z * y - (c' * (c * x + s * y) + s' * (c * y - s * x)) = (W - (c * c' - s * s')) * x + (Z - (s * c' + c * s')) * y := by grind
 rw [e1, e2]
 generalize (W - (c * c' - s * s')) * y = q1 at *
 generalize (W - (c * c' - s * s')) * x = q2 at *
 generalize (Z - (s * c' + c * s')) * y = q3 at *
 generalize (Z - (s * c' + c * s')) * x = q4 at *
 clear e1 e2 h1 h2
 refine ⟨⟨?_, ?_⟩, ⟨?_, ?_⟩⟩ <;> grind
theorem cr_bound {a : Int} {y x M : Rat} (y1 : -M ≤ y) (y2 : y ≤ M) (x1 : -M ≤ x) (x2 : x ≤ M) : -(2 * M) ≤ cr a y x ∧ cr a y x ≤ 2 * M := by
 obtain ⟨b1, b2, b3, b4⟩ := SC_bound a
 obtain ⟨p1, p2⟩ := abs_mul b1 b2 y1 y2
 obtain ⟨p3, p4⟩ := abs_mul b3 b4 x1 x2
 unfold cr
 generalize C a * y = p at *
 generalize S a * x = q at *
 constructor <;> grind
theorem cr_per {a b : Int} {y x : Rat} (h : a % 1000000000000000 = b % 1000000000000000) : cr a y x = cr b y x := by unfold cr; rw [S_per h, C_per h]
theorem fit_lo {t n : Int} {Y X : Rat} (t0 : 0 ≤ t) (t1 : t ≤ 2147483648) (h : Fit t n) (Y0 : 0 ≤ Y) (X0 : 0 ≤ X) (c1 : -2 * X ≤ Y * 2147483648 - (t : Rat) * X) : -(14 / 10000000000 * X) ≤ cr (n * 1000000) Y X := by
 obtain ⟨h0, h1, h2, _⟩ := h
 rcases h2 with h2 | h2
 ·subst h2
  have e1 : C (0 * 1000000) = 1 := by rw [show (0 : Int) * 1000000 = 0 by omega, C_zero]
  have e2 : S (0 * 1000000) = 0 := by rw [show (0 : Int) * 1000000 = 0 by omega, S_zero]
  unfold cr
  rw [e1, e2]
  grind
 ·obtain ⟨_, b1, b2, b3, b4, e1, e2, e3, e4⟩ := oct_all h0 h1
  unfold rch at h2
  have k1 : os n * 2147483648 < t * (oc n / 536870912) * 536870912 + 1152921504606846976 := by omega
  have k2 : t * (oc n / 536870912) * 536870912 ≤ t * oc n := by
   have := Int.mul_le_mul_of_nonneg_left (show oc n / 536870912 * 536870912 ≤ oc n by omega) t0
   rw [Int.mul_assoc]; exact this
  have k3 : os n * 2147483648 ≤ t * oc n + 1152921504606846976 := by omega
  have k3 := cle k3
  push_cast at k3
  have t0' := cle t0
  have t1' := cle t1
  have z0 : ((0 : Int) : Rat) = 0 := rfl
  have z1 : ((2147483648 : Int) : Rat) = 2147483648 := rfl
  rw [z0] at t0'; rw [z1] at t1'
  have m1 := Rat.mul_le_mul_of_nonneg_left e4 t0'
  obtain ⟨_, cb, _, _⟩ := SC_bound (n * 1000000)
  have cb0 := c_eighth h0 h1
  unfold cr
  rw [u_eq] at *
  generalize (os n : Rat) = o at *
  generalize (oc n : Rat) = c at *
  generalize S (n * 1000000) = s at *
  generalize C (n * 1000000) = w at *
  generalize (t : Rat) = τ at *
  clear b1 b2 b3 b4 k1 k2 h2 h0 h1 e2 e3 t0 t1
  have g : s * 2147483648 - τ * w ≤ 10000004 / 10000000 := by grind
  have g2 := Rat.mul_le_mul_of_nonneg_left g X0
  have g3 := Rat.mul_le_mul_of_nonneg_left c1 (show 0 ≤ w by grind)
  have g4 := Rat.mul_le_mul_of_nonneg_left cb X0
  clear g c1 k3 m1 e1 e4 cb
  generalize hp : w * Y = p at *
  generalize hq : s * X = q at *
  have r1 : X * (s * 2147483648 - τ * w) = q * 2147483648 - τ * w * X := by grind
  have r2 : w * (Y * 2147483648 - τ * X) = p * 2147483648 - τ * w * X := by grind
  have r3 : w * (-2 * X) = -2 * (X * w) := by grind
  rw [r1] at g2
  rw [r2, r3] at g3
  generalize τ * w * X = v at *
  generalize X * w = x' at *
  clear r1 r2 r3 hp hq
  grind
theorem fit_hi {t n : Int} {Y X : Rat} (t0 : 0 ≤ t) (t1 : t ≤ 2147483648) (h : Fit t n) (hn : n < 125000000) (Y0 : 0 ≤ Y) (X0 : 0 ≤ X) (c1 : Y * 2147483648 - (t : Rat) * X ≤ 3 * X) : cr ((n + 1) * 1000000) Y X ≤ 187 / 100000000000 * X := by
 obtain ⟨h0, h1, _, h2⟩ := h
 have h2 := h2.resolve_left (by omega)
 obtain ⟨_, b1, b2, b3, b4, e1, e2, e3, e4⟩ := oct_all (show 0 ≤ n + 1 by omega) (show n + 1 ≤ 125000000 by omega)
 unfold rch at h2
 have k2 : t * oc (n + 1) ≤ t * (oc (n + 1) / 536870912) * 536870912 + t * 536870912 := by
  have := Int.mul_le_mul_of_nonneg_left (show oc (n + 1) ≤ oc (n + 1) / 536870912 * 536870912 + 536870912 by omega) t0
  rw [Int.mul_add, ← Int.mul_assoc] at this; exact this
 have k3 : t * oc (n + 1) ≤ os (n + 1) * 2147483648 + 1152921504606846976 := by omega
 have k3 := cle k3
 push_cast at k3
 have t0' := cle t0
 have t1' := cle t1
 have z0 : ((0 : Int) : Rat) = 0 := rfl
 have z1 : ((2147483648 : Int) : Rat) = 2147483648 := rfl
 rw [z0] at t0'; rw [z1] at t1'
 have m1 := Rat.mul_le_mul_of_nonneg_left e3 t0'
 obtain ⟨_, cb, _, _⟩ := SC_bound ((n + 1) * 1000000)
 have cb0 := c_eighth (show 0 ≤ n + 1 by omega) (show n + 1 ≤ 125000000 by omega)
 unfold cr
 rw [u_eq] at *
 generalize (os (n + 1) : Rat) = o at *
 generalize (oc (n + 1) : Rat) = c at *
 generalize S ((n + 1) * 1000000) = s at *
 generalize C ((n + 1) * 1000000) = w at *
 generalize (t : Rat) = τ at *
 clear b1 b2 b3 b4 k2 h2 h0 h1 e1 e4 t0 t1
 have g : τ * w - s * 2147483648 ≤ 10000004 / 10000000 := by grind
 have g2 := Rat.mul_le_mul_of_nonneg_left g X0
 have g3 := Rat.mul_le_mul_of_nonneg_left c1 (show 0 ≤ w by grind)
 have g4 := Rat.mul_le_mul_of_nonneg_left cb X0
 clear g c1 k3 m1 e2 e3 cb
 generalize hp : w * Y = p at *
 generalize hq : s * X = q at *
 have r1 : X * (τ * w - s * 2147483648) = τ * w * X - q * 2147483648 := by grind
 have r2 : w * (Y * 2147483648 - τ * X) = p * 2147483648 - τ * w * X := by grind
 have r3 : w * (3 * X) = 3 * (X * w) := by grind
 rw [r1] at g2
 rw [r2, r3] at g3
 generalize τ * w * X = v at *
 generalize X * w = x' at *
 clear r1 r2 r3 hp hq
 grind
theorem S_unit : 628318 / 100000000000000 ≤ S 1000000 ∧ S 1000000 ≤ 62832 / 10000000000000 := by
 have e : S 1000000 = sinT (ag 1000000) := by unfold S; rw [show (1000000 : Int) % 1000000000000000 = 1000000 by omega]
 obtain ⟨_, a3, a4⟩ := T_taylor 3 (ag 1000000) (by decide +kernel)
 have e1 : F (s1 * ((ag 1000000 : Nat) : Rat)) 3 + s1 * dd 3 ≤ 1 / 100000000000000000000 := by decide +kernel
 have e2 : 628318530 / 100000000000000000 ≤ sinP (s1 * ((ag 1000000 : Nat) : Rat)) 3 := by decide +kernel
 have e3 : sinP (s1 * ((ag 1000000 : Nat) : Rat)) 3 ≤ 628318531 / 100000000000000000 := by decide +kernel
 rw [e]
 generalize F (s1 * ((ag 1000000 : Nat) : Rat)) 3 + s1 * dd 3 = x at *
 generalize sinP (s1 * ((ag 1000000 : Nat) : Rat)) 3 = y at *
 generalize sinT (ag 1000000) = z at *
 clear e
 constructor <;> grind
theorem S_half {a : Int} (h0 : 0 ≤ a) (h1 : a ≤ 500000000000000) : -(1 / 200000000000000000000) ≤ S a := by
 unfold S
 rw [show a % 1000000000000000 = a by omega]
 exact second_quarter (by rw [← ag_half]; exact ag_le h1)
theorem C_unit : 99 / 100 ≤ C 1000000 ∧ 99 / 100 ≤ C (-1000000) := by
 have h1 := C_lip (a := 0) (b := 1000000) (by omega)
 have h2 := C_lip (a := -1000000) (b := 0) (by omega)
 rw [C_zero, show (1000000 : Int) - 0 = 1000000 by omega] at h1
 rw [C_zero, show (0 : Int) - -1000000 = 1000000 by omega] at h2
 have k : kap * ((1000000 : Int) : Rat) + 1 / 1000000000000000000 ≤ 1 / 100 := by decide +kernel
 unfold Nr at *
 generalize kap * ((1000000 : Int) : Rat) + 1 / 1000000000000000000 = z at *
 generalize C 1000000 = x at *
 generalize C (-1000000) = y at *
 constructor <;> grind
theorem C_le_one (a : Int) : C a ≤ 1 := (SC_bound a).2.1
theorem step_back {n : Int} {Y X : Rat} (h0 : 0 ≤ n) (h1 : n ≤ 125000000) (Y0 : 0 ≤ Y) (YX : Y ≤ X) (h : -(14 / 10000000000 * X) ≤ cr (n * 1000000) Y X) : 2 / 1000000000 * X ≤ cr ((n - 1) * 1000000) Y X := by
 obtain ⟨⟨r1, r2⟩, _⟩ := rot (a := n * 1000000) (b := -1000000) (y := Y) (x := X) (M := X) (by grind) YX (by grind) Rat.le_refl
 rw [show n * 1000000 + -1000000 = (n - 1) * 1000000 by omega] at r1 r2
 obtain ⟨⟨n1, n2⟩, ⟨n3, n4⟩⟩ := SC_neg 1000000
 obtain ⟨u1, u2⟩ := S_unit
 have hc := c_eighth h0 h1
 have hs := S_half (a := n * 1000000) (by omega) (by omega)
 have c1 := C_le_one (-1000000)
 have c0 := C_unit.2
 unfold dt at r1 r2
 generalize cr ((n - 1) * 1000000) Y X = R at *
 generalize cr (n * 1000000) Y X = P at *
 generalize S (-1000000) = s' at *
 generalize C (-1000000) = c' at *
 generalize S 1000000 = s at *
 generalize C (n * 1000000) = w at *
 generalize S (n * 1000000) = v at *
 have X0 : 0 ≤ X := Rat.le_trans Y0 YX
 have m1 := Rat.mul_le_mul_of_nonneg_left hc X0
 have m2 := Rat.mul_le_mul_of_nonneg_left hs Y0
 have g : 70709 / 100000 * X ≤ w * X + v * Y := by grind
 have m3 := Rat.mul_le_mul_of_nonneg_left g (show 0 ≤ -s' by grind)
 have m4 := Rat.mul_le_mul_of_nonneg_left (show 62831 / 10000000000000 ≤ -s' by grind) (show 0 ≤ 70709 / 100000 * X by grind)
 generalize w * X + v * Y = D at *
 clear m1 m2 hc hs n1 n2 n3 n4 u1 u2 r2 g
 have k1 := Rat.mul_le_mul_of_nonneg_left h (show 0 ≤ c' by grind)
 have k2 := Rat.mul_le_mul_of_nonneg_left c1 (show 0 ≤ 14 / 10000000000 * X by grind)
 have e : -s' * D = -(s' * D) := by grind
 rw [e] at m3
 generalize c' * P = p at *
 generalize s' * D = d at *
 grind
theorem step_on {n : Int} {Y X : Rat} (h0 : 0 ≤ n) (h1 : n < 125000000) (Y0 : 0 ≤ Y) (YX : Y ≤ X) (h : cr ((n + 1) * 1000000) Y X ≤ 187 / 100000000000 * X) : cr ((n + 2) * 1000000) Y X ≤ -(2 / 1000000000 * X) := by
 obtain ⟨⟨r1, r2⟩, _⟩ := rot (a := (n + 1) * 1000000) (b := 1000000) (y := Y) (x := X) (M := X) (by grind) YX (by grind) Rat.le_refl
 rw [show (n + 1) * 1000000 + 1000000 = (n + 2) * 1000000 by omega] at r1 r2
 obtain ⟨u1, u2⟩ := S_unit
 have hc := c_eighth (show 0 ≤ n + 1 by omega) (show n + 1 ≤ 125000000 by omega)
 have hs := S_half (a := (n + 1) * 1000000) (by omega) (by omega)
 have c1 := C_le_one 1000000
 have c0 := C_unit.1
 unfold dt at r1 r2
 generalize cr ((n + 2) * 1000000) Y X = R at *
 generalize cr ((n + 1) * 1000000) Y X = P at *
 generalize S 1000000 = s at *
 generalize C 1000000 = c' at *
 generalize C ((n + 1) * 1000000) = w at *
 generalize S ((n + 1) * 1000000) = v at *
 have X0 : 0 ≤ X := Rat.le_trans Y0 YX
 have m1 := Rat.mul_le_mul_of_nonneg_left hc X0
 have m2 := Rat.mul_le_mul_of_nonneg_left hs Y0
 have g : 70709 / 100000 * X ≤ w * X + v * Y := by grind
 have m3 := Rat.mul_le_mul_of_nonneg_left g (show 0 ≤ s by grind)
 have m4 := Rat.mul_le_mul_of_nonneg_left u1 (show 0 ≤ 70709 / 100000 * X by grind)
 generalize w * X + v * Y = D at *
 clear m1 m2 hc hs u2 r1 g
 have k1 := Rat.mul_le_mul_of_nonneg_left h (show 0 ≤ c' by grind)
 have k2 := Rat.mul_le_mul_of_nonneg_left c1 (show 0 ≤ 187 / 100000000000 * X by grind)
 generalize c' * P = p at *
 generalize s * D = d at *
 grind
theorem S8C8 : -(1 / 10000000000000000000000) ≤ C (125000000 * 1000000) - S (125000000 * 1000000) ∧ C (125000000 * 1000000) - S (125000000 * 1000000) ≤ 1 / 10000000000000000000000 := by
 obtain ⟨h1, h2, _, _⟩ := T8
 have e : ag ((125000000 * 1000000 : Int) % 1000000000000000) = n8 := by decide +kernel
 unfold S C
 rw [e]
 generalize cosT n8 = x at *
 generalize sinT n8 = y at *
 constructor <;> grind
theorem step_eighth {Y X : Rat} (Y0 : 0 ≤ Y) (YX : Y ≤ X) : cr ((125000000 + 2) * 1000000) Y X ≤ -(2 / 1000000000 * X) := by
 obtain ⟨⟨r1, r2⟩, ⟨r3, r4⟩⟩ := rot (a := 125000000 * 1000000) (b := 1000000) (y := Y) (x := X) (M := X) (by grind) YX (by grind) Rat.le_refl
 obtain ⟨⟨t1, t2⟩, _⟩ := rot (a := 125000000 * 1000000 + 1000000) (b := 1000000) (y := Y) (x := X) (M := X) (by grind) YX (by grind) Rat.le_refl
 rw [show (125000000 * 1000000 + 1000000 : Int) + 1000000 = (125000000 + 2) * 1000000 by omega] at t1 t2
 obtain ⟨u1, u2⟩ := S_unit
 have hc := c_eighth (show (0 : Int) ≤ 125000000 by omega) (show (125000000 : Int) ≤ 125000000 by omega)
 obtain ⟨q1, q2⟩ := S8C8
 have c1 := C_le_one 1000000
 have c0 := C_unit.1
 have cb := C_le_one (125000000 * 1000000)
 have X0 : 0 ≤ X := Rat.le_trans Y0 YX
 have ecr : cr (125000000 * 1000000) Y X ≤ 1 / 10000000000000000000000 * X := by
  unfold cr
  generalize C (125000000 * 1000000) = w at *
  generalize S (125000000 * 1000000) = v at *
  have m1 := Rat.mul_le_mul_of_nonneg_left YX (show 0 ≤ w by grind)
  have m2 := Rat.mul_le_mul_of_nonneg_left q2 X0
  grind
 have edt : 7071 / 10000 * X ≤ dt (125000000 * 1000000) Y X := by
  unfold dt
  generalize C (125000000 * 1000000) = w at *
  generalize S (125000000 * 1000000) = v at *
  have m1 := Rat.mul_le_mul_of_nonneg_left hc X0
  have m2 := Rat.mul_le_mul_of_nonneg_left (show 0 ≤ v by grind) Y0
  grind
 have edt2 : dt (125000000 * 1000000) Y X ≤ 3 * X := by
  unfold dt
  generalize C (125000000 * 1000000) = w at *
  generalize S (125000000 * 1000000) = v at *
  have m1 := Rat.mul_le_mul_of_nonneg_left cb X0
  have m2 := Rat.mul_le_mul_of_nonneg_left (show v ≤ 2 by grind) Y0
  grind
 have ecr2 : -(3 * X) ≤ cr (125000000 * 1000000) Y X := by
  have := (cr_bound (a := 125000000 * 1000000) (y := Y) (x := X) (M := X) (by grind) YX (by grind) Rat.le_refl).1
  generalize cr (125000000 * 1000000) Y X = z at *
  grind
 generalize cr ((125000000 + 2) * 1000000) Y X = R at *
 generalize cr (125000000 * 1000000 + 1000000) Y X = P1 at *
 generalize dt (125000000 * 1000000 + 1000000) Y X = D1 at *
 generalize cr (125000000 * 1000000) Y X = P at *
 generalize dt (125000000 * 1000000) Y X = D at *
 generalize S 1000000 = s at *
 generalize C 1000000 = c' at *
 clear hc q1 q2 cb
 have k0 : 0 ≤ c' := by grind
 have s0 : 0 ≤ s := by grind
 have a1 := Rat.mul_le_mul_of_nonneg_left ecr k0
 have a2 := Rat.mul_le_mul_of_nonneg_left c1 (show 0 ≤ 1 / 10000000000000000000000 * X by grind)
 have a3 := Rat.mul_le_mul_of_nonneg_left edt s0
 have a4 := Rat.mul_le_mul_of_nonneg_left u1 (show 0 ≤ 7071 / 10000 * X by grind)
 have a5 := Rat.mul_le_mul_of_nonneg_left edt k0
 have a6 := Rat.mul_le_mul_of_nonneg_left c0 (show 0 ≤ 7071 / 10000 * X by grind)
 have a7 := Rat.mul_le_mul_of_nonneg_left ecr2 s0
 have a8 := Rat.mul_le_mul_of_nonneg_left u2 (show 0 ≤ 3 * X by grind)
 have P1u : P1 ≤ -(44 / 10000000000 * X) := by
  generalize c' * P = z1 at *
  generalize s * D = z2 at *
  clear a5 a6 a7 a8 t1 t2 r3 r4
  grind
 have D1l : 69 / 100 * X ≤ D1 := by
  generalize c' * D = z1 at *
  generalize s * P = z2 at *
  clear a1 a2 a3 a4 t1 t2 r1 r2
  grind
 have b1 := Rat.mul_le_mul_of_nonneg_left P1u k0
 have b2 := Rat.mul_le_mul_of_nonneg_left c0 (show 0 ≤ 44 / 10000000000 * X by grind)
 have b3 := Rat.mul_le_mul_of_nonneg_left D1l s0
 have b4 := Rat.mul_nonneg s0 X0
 clear a1 a2 a3 a4 a5 a6 a7 a8 r1 r2 r3 r4 ecr edt edt2 ecr2
 generalize c' * P1 = z1 at *
 generalize s * D1 = z2 at *
 grind
theorem pow30 : (2 : Int) ^ 30 = 1073741824 := by decide
theorem acute_tells {y x : Int} (h0 : 0 ≤ y) (h1 : y ≤ x) (h2 : 0 < x) (h3 : x ≤ 1000000000000000000) : ∃ n, Ev (fun k => trig_acute.f k y x) n ∧ 0 ≤ n ∧ n ≤ 125000000 ∧ 2 / 1000000000 * (x : Rat) ≤ cr ((n - 1) * 1000000) (y : Rat) (x : Rat) ∧ cr ((n + 2) * 1000000) (y : Rat) (x : Rat) ≤ -(2 / 1000000000 * (x : Rat)) := by
 have H : ∃ t n, 0 ≤ t ∧ t ≤ 2147483648 ∧ Ev (fun k => trig_acute.f k y x) n ∧ Fit t n ∧ -2 * x ≤ y * 2147483648 - t * x ∧ y * 2147483648 - t * x ≤ 3 * x := by
  by_cases c : x < 2147483648
  ·obtain ⟨j, t, n, a1, a2, a3, a4, e, f⟩ := acute1_ev 30 h0 h1 h2 c (by rw [pow30]; omega)
   refine ⟨t, n, a1, a2, ev_step 1 (fun k => by unfold trig_acute.f; rw [trig_acute.l0, if_neg (by omega)]) e, f, ?_⟩
   have hp : (0 : Int) < 2 ^ j := Int.pow_pos (by omega)
   have b3 : t * x * 2 ^ j ≤ y * 2147483648 * 2 ^ j := by rw [Int.mul_assoc]; rw [Int.mul_right_comm]; exact a3
   have b4 : y * 2147483648 * 2 ^ j < (t * x + x) * 2 ^ j := by rw [Int.add_mul, Int.mul_assoc t]; rw [Int.mul_right_comm]; exact a4
   have b3 := Int.le_of_mul_le_mul_right b3 hp
   have b4 := Int.lt_of_mul_lt_mul_right b4 (by omega)
   constructor <;> omega
  ·obtain ⟨j, t, n, y', x', b1, b2, b3, b4, a1, a2, a3, a4, e, f⟩ := acute0_ev 30 h0 h1 (by omega) (by rw [pow30]; omega)
   refine ⟨t, n, a1, a2, e, f, ?_⟩
   have hp : (0 : Int) < 2 ^ j := Int.pow_pos (by omega)
   have c1 := Int.ediv_mul_le y (show (2 : Int) ^ j ≠ 0 by omega)
   have c2 := Int.lt_ediv_add_one_mul_self y hp
   have c3 := Int.ediv_mul_le x (show (2 : Int) ^ j ≠ 0 by omega)
   have c4 := Int.lt_ediv_add_one_mul_self x hp
   rw [← b1] at c1 c2
   rw [← b2] at c3 c4
   rw [Int.add_mul, Int.one_mul] at c2 c4
   have d1 := Int.mul_le_mul_of_nonneg_right a3 (show (0 : Int) ≤ 2 ^ j by omega)
   have d2 := Int.mul_le_mul_of_nonneg_right (show y' * 2147483648 ≤ t * x' + x' by omega) (show (0 : Int) ≤ 2 ^ j by omega)
   have d3 := Int.mul_le_mul_of_nonneg_left c3 a1
   have d4 := Int.mul_le_mul_of_nonneg_left (show x ≤ x' * 2 ^ j + 2 ^ j by omega) a1
   have d5 := Int.mul_le_mul_of_nonneg_right a2 (show (0 : Int) ≤ 2 ^ j by omega)
   have d6 := Int.mul_le_mul_of_nonneg_right b3 (show (0 : Int) ≤ 2 ^ j by omega)
   have e1 : t * x' * 2 ^ j = t * (x' * 2 ^ j) := Int.mul_assoc _ _ _
   have e2 : y' * 2147483648 * 2 ^ j = y' * 2 ^ j * 2147483648 := Int.mul_right_comm _ _ _
   rw [e1, e2] at d1
   rw [e2, Int.add_mul, e1] at d2
   rw [Int.mul_add] at d4
   generalize t * (x' * 2 ^ j) = p at *
   generalize y' * 2 ^ j = q at *
   generalize x' * 2 ^ j = r at *
   generalize t * 2 ^ j = v at *
   generalize t * x = w at *
   generalize (2 : Int) ^ j = z at *
   clear e1 e2 b1 b2 a3 a4 f e
   constructor <;> omega
 obtain ⟨t, n, t0, t1, e, f, c1, c2⟩ := H
 have X0 : (0 : Rat) ≤ (x : Rat) := cle (a := 0) (by omega)
 have Y0 : (0 : Rat) ≤ (y : Rat) := cle (a := 0) h0
 have YX := cle h1
 have c1 := cle c1
 have c2 := cle c2
 push_cast at c1 c2
 have f' := f
 obtain ⟨n0, n1, _, _⟩ := f
 have l := fit_lo t0 t1 f' Y0 X0 c1
 refine ⟨n, e, n0, n1, step_back n0 n1 Y0 YX l, ?_⟩
 by_cases c : n < 125000000
 ·exact step_on n0 c Y0 YX (fit_hi t0 t1 f' c Y0 X0 c2)
 ·obtain rfl : n = 125000000 := by omega
  exact step_eighth Y0 YX
end Go.Proofs.Ytmahlfjnejbcnaa.Cone
