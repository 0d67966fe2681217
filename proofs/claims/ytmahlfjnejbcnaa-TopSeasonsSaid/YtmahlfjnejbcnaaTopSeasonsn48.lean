/- An arc of a narrow box is narrow, and so is an ArcSin. -/
import Derived.Test.YtmahlfjnejbcnaaTopSeasonsn45
import Derived.Test.YtmahlfjnejbcnaaTopSeasonsn47
namespace Go.Proofs.Ytmahlfjnejbcnaa.NarrowT
open Go.RowKit YtmahlfjnejbcnaaW.PrintWords YtmahlfjnejbcnaaW.PrintLast YtmahlfjnejbcnaaW.PrintMore PAll Base Turn OctT SinT RefT Circ Over Cone Arcs ArcT ArcSinT
set_option linter.unusedVariables false
set_option linter.unusedSimpArgs false
theorem S_mono {a b : Int} (h0 : -250000000000000 ≤ a) (h : a ≤ b) (h1 : b ≤ 250000000000000) : S a ≤ S b + 1 / 100000000000000000 := by
 have q1 := (quarter_at a).2
 have q2 := (quarter_at b).2
 have d := C_dec (a := a + 250000000000000) (b := b + 250000000000000) (by omega) (by omega) (by omega)
 unfold Nr at q1 q2
 generalize S a = x at *
 generalize S b = y at *
 generalize C (a + 250000000000000) = z at *
 generalize C (b + 250000000000000) = w at *
 grind
theorem S_arg (n : Int) (h0 : 0 ≤ n) (h1 : n < 1000000000000000) : S n = sinT (ag n) ∧ C n = cosT (ag n) := by
 unfold S C
 rw [show n % 1000000000000000 = n by omega]
 exact ⟨rfl, rfl⟩
theorem y36 : cosP (s1 * ((100000000000000 * 1099511627776 : Nat) : Rat)) 20 ≤ 80905 / 100000 ∧ s1 * ((100000000000000 * 1099511627776 : Nat) : Rat) ≤ 1 := by decide +kernel
theorem C_36 : C 100000000000000 ≤ 8091 / 10000 := by
 rw [(S_arg 100000000000000 (by omega) (by omega)).2]
 have e : ag 100000000000000 = 100000000000000 * 1099511627776 := by decide +kernel
 obtain ⟨h1, _, _, _⟩ := taylor20 (n := ag 100000000000000) (by rw [e]; exact y36.2) (sn_nonneg _)
 rw [e] at *
 have h2 := y36.1
 generalize cosT (100000000000000 * 1099511627776) = x at *
 generalize cosP (s1 * ((100000000000000 * 1099511627776 : Nat) : Rat)) 20 = y at *
 rw [u_eq] at h1
 grind
theorem C_72u : C 200000000000000 ≤ 31 / 100 := by
 obtain ⟨_, h⟩ := SC_add 100000000000000 100000000000000
 have h2 := C_36
 have h3 := C_quarter (a := 100000000) (by omega) (by omega)
 rw [show (100000000 : Int) * 1000000 = 100000000000000 by omega] at h3
 rw [show (100000000000000 : Int) + 100000000000000 = 200000000000000 by omega] at h
 have sq := SC_sq 100000000000000
 unfold Nr at h
 generalize C 200000000000000 = x at *
 generalize S 100000000000000 = s at *
 generalize C 100000000000000 = c at *
 have k : c * c ≤ 8091 / 10000 * (8091 / 10000) := by
  have a := Rat.mul_le_mul_of_nonneg_left h2 (show (0 : Rat) ≤ 8091 / 10000 by decide +kernel)
  rcases (Rat.le_total : (0 : Rat) ≤ c ∨ c ≤ 0) with n | n
  ·have b := Rat.mul_le_mul_of_nonneg_left h2 n
   grind
  ·have b := Rat.mul_le_mul_of_nonneg_left h3 (show 0 ≤ -c by grind)
   have b2 := OctT.abs_mul (a := c) (b := c) (A := 1 / 1000000000000) (B := 1 / 1000000000000) h3 (by grind) h3 (by grind)
   grind
 grind
theorem C_far {d : Int} (h0 : 200000000000000 ≤ d) (h1 : d ≤ 500000000000000) : C d ≤ 32 / 100 := by
 have h := C_dec (a := 200000000000000) (b := d) (by omega) h0 h1
 have := C_72u
 generalize C 200000000000000 = x at *
 generalize C d = y at *
 grind
theorem len_at (a : Int) (y x : Rat) : cr a y x * cr a y x + dt a y x * dt a y x = y * y + x * x := by
 have h := SC_sq a
 unfold cr dt
 generalize C a = c at *
 generalize S a = s at *
 have : (c * y - s * x) * (c * y - s * x) + (c * x + s * y) * (c * x + s * y) = (c * c + s * s) * (y * y + x * x) := by grind
 rw [this, h, Rat.one_mul]
theorem le_of_sq {x r : Rat} (r0 : 0 ≤ r) (h : x * x ≤ r * r) : x ≤ r ∧ -r ≤ x := by
 constructor
 ·rcases Rat.le_total (a := x) (b := r) with n | n
  ·exact n
  ·have a := Rat.mul_le_mul_of_nonneg_left n r0
   have b := Rat.mul_le_mul_of_nonneg_left n (show 0 ≤ x by grind)
   by_cases e : x = r
   ·grind
   ·exfalso
    have : (x - r) * (x + r) ≤ 0 := by grind
    have p1 : 0 < x - r := by grind
    rcases (Rat.le_total : x + r ≤ 0 ∨ 0 ≤ x + r) with m | m
    ·have : x + r = 0 ∨ x + r < 0 := by grind
     grind
    ·have k : (x - r) * (x - r) ≤ (x - r) * (x + r) := Rat.mul_le_mul_of_nonneg_left (by grind) (by grind)
     have k2 : 0 < (x - r) * (x - r) := Rat.mul_pos p1 p1
     grind
 ·rcases Rat.le_total (a := -r) (b := x) with n | n
  ·exact n
  ·by_cases e : x = -r
   ·grind
   ·exfalso
    have p1 : 0 < -x - r := by grind
    have k : (-x - r) * (-x - r) ≤ (-x - r) * (-x + r) := Rat.mul_le_mul_of_nonneg_left (by grind) (by grind)
    have k2 : 0 < (-x - r) * (-x - r) := Rat.mul_pos p1 p1
    grind
theorem ge_of_sq {v ρ : Rat} (h0 : 100000000 ≤ ρ) (h : ρ * ρ - 10000 ≤ v * v) (v0 : -2 ≤ v) : ρ - 1 ≤ v := by
 rcases Rat.le_total (a := ρ - 1) (b := v) with n | n
 ·exact n
 ·by_cases e : v = ρ - 1
  ·grind
  ·exfalso
   have p : v < ρ - 1 := by grind
   have k1 := OctT.abs_mul (a := v) (b := v) (A := ρ - 1) (B := ρ - 1) (by grind) (by grind) (by grind) (by grind)
   grind
structure Dirn (l : Int) (y x ρ R : Rat) : Prop where
 c0 : 0 ≤ cr (l * 1000000) y x
 c1 : cr (l * 1000000) y x ≤ 100
 c2 : -100 ≤ cr ((l + 3) * 1000000) y x
 c3 : cr ((l + 3) * 1000000) y x ≤ 0
 d0 : ρ - 1 ≤ dt (l * 1000000) y x
 d1 : dt (l * 1000000) y x ≤ R
 d2 : ρ - 1 ≤ dt ((l + 3) * 1000000) y x
theorem dirn_of {l y x : Int} {ρ R : Rat} (A : At l y x) (y1 : -1500000000 ≤ y) (y2 : y ≤ 1500000000) (x1 : -1500000000 ≤ x) (x2 : x ≤ 1500000000) (r0 : 100000000 ≤ ρ) (r1 : ρ * ρ ≤ (y : Rat) * y + (x : Rat) * x) (R0 : 0 ≤ R) (R1 : (y : Rat) * y + (x : Rat) * x ≤ R * R) : Dirn l (y : Rat) (x : Rat) ρ R := by
 obtain ⟨N, b, n1, n2, n3, n4, n0, hN⟩ := A
 have N1 : (N : Rat) ≤ 1500000000 := by
  have : N ≤ 1500000000 := by omega
  have := cle this
  push_cast at this
  exact this
 have N0 : (0 : Rat) ≤ (N : Rat) := by have := cle (show 0 ≤ N by omega); push_cast at this; exact this
 have e1 := neg_le_cast n1
 have e2 := cle n2
 have e3 := neg_le_cast n3
 have e4 := cle n4
 have m0 : 0 ≤ 190 / 100000000000 * (N : Rat) := Rat.mul_nonneg (by decide +kernel) N0
 have p0 := Rat.le_trans m0 b.2.1
 have q0 : 0 ≤ -cr ((l + 3) * 1000000) (y : Rat) (x : Rat) := nn_of m0 b.2.2
 obtain ⟨s1, s2⟩ := sides_small N0 e1 e2 e3 e4 p0 q0
 obtain ⟨_, _, t1⟩ := near_parts (a := l) N0 e1 e2 e3 e4 p0 q0 (by omega) (by omega)
 obtain ⟨_, _, t2⟩ := near_parts (a := l + 3) N0 e1 e2 e3 e4 p0 q0 (by omega) (by omega)
 have l1 := len_at (l * 1000000) (y : Rat) (x : Rat)
 have l2 := len_at ((l + 3) * 1000000) (y : Rat) (x : Rat)
 have key : (cr (l * 1000000) (y : Rat) (x : Rat) ≤ 100 ∧ -100 ≤ cr ((l + 3) * 1000000) (y : Rat) (x : Rat) ∧ cr ((l + 3) * 1000000) (y : Rat) (x : Rat) ≤ 0) ∧ ρ - 1 ≤ dt (l * 1000000) (y : Rat) (x : Rat) ∧ dt (l * 1000000) (y : Rat) (x : Rat) ≤ R ∧ ρ - 1 ≤ dt ((l + 3) * 1000000) (y : Rat) (x : Rat) := by
  clear b n1 n2 n3 n4 hN y1 y2 x1 x2 e1 e2 e3 e4
  generalize cr (l * 1000000) (y : Rat) (x : Rat) = c at *
  generalize cr ((l + 3) * 1000000) (y : Rat) (x : Rat) = c' at *
  generalize dt (l * 1000000) (y : Rat) (x : Rat) = d at *
  generalize dt ((l + 3) * 1000000) (y : Rat) (x : Rat) = d' at *
  generalize (y : Rat) * y + (x : Rat) * x = Q at *
  generalize (N : Rat) = M at *
  have c1 : c ≤ 100 := by grind
  have c2 : -100 ≤ c' := by grind
  have c3 : c' ≤ 0 := by grind
  have k1 := OctT.abs_mul (a := c) (b := c) (A := 100) (B := 100) (by grind) c1 (by grind) c1
  have k2 := OctT.abs_mul (a := c') (b := c') (A := 100) (B := 100) c2 (by grind) c2 (by grind)
  have k3 : 0 ≤ c * c := Turn.sq_nonneg c
  have f1 : -2 ≤ d := by grind
  have f2 : -2 ≤ d' := by grind
  have g1 : ρ * ρ - 10000 ≤ d * d := by grind
  have g2 : ρ * ρ - 10000 ≤ d' * d' := by grind
  have g3 : d * d ≤ R * R := by grind
  exact ⟨⟨c1, c2, c3⟩, ge_of_sq r0 g1 f1, (le_of_sq R0 g3).1, ge_of_sq r0 g2 f2⟩
 exact ⟨p0, key.1.1, key.1.2.1, key.1.2.2, key.2.1, key.2.2.1, key.2.2.2⟩
theorem turn_near {a : Int} {y x y' x' W : Rat} (W0 : 0 ≤ W) (h : (y - y') * (y - y') + (x - x') * (x - x') ≤ W * W) : (cr a y x - cr a y' x' ≤ W ∧ -W ≤ cr a y x - cr a y' x') ∧ (dt a y x - dt a y' x' ≤ W ∧ -W ≤ dt a y x - dt a y' x') := by
 have l := len_at a (y - y') (x - x')
 have e1 : cr a (y - y') (x - x') = cr a y x - cr a y' x' := by unfold cr; grind
 have e2 : dt a (y - y') (x - x') = dt a y x - dt a y' x' := by unfold dt; grind
 rw [e1, e2] at l
 generalize cr a y x - cr a y' x' = c at *
 generalize dt a y x - dt a y' x' = d at *
 have k1 := Turn.sq_nonneg c
 have k2 := Turn.sq_nonneg d
 exact ⟨le_of_sq W0 (by grind), le_of_sq W0 (by grind)⟩
theorem apart_rat {c s c0 s0 u v X Y X' Y' W ρ R κ e : Rat} (e0 : 0 ≤ e) (e1 : e ≤ 1) (hX : Nr (X - (c * u - s * v)) e) (hY : Nr (Y - (c * v + s * u)) e) (hc : Nr (c - c0) (1 / 50000000000000000000)) (hs : Nr (s + s0) (1 / 50000000000000000000)) (b1 : -1 ≤ c0) (b2 : c0 ≤ 1) (b3 : -1 ≤ s0) (b4 : s0 ≤ 1)
  (u0 : 0 ≤ u) (u1 : u ≤ 100) (v0 : ρ - 1 ≤ v) (v1 : v ≤ R) (R1 : R ≤ 2000000000) (r0 : 100000000 ≤ ρ) (x0 : X' ≤ 0) (y0 : ρ - 1 ≤ Y') (dX : X - X' ≤ W) (dY : -W ≤ Y - Y')
  (h : κ ≤ s0 ∧ 0 ≤ κ ∧ W + 110 < κ * (ρ - 1) ∨ c0 ≤ 32 / 100 ∧ 32 / 100 * R + W + 110 < ρ) : False := by
 unfold Nr at *
 have a1 := OctT.abs_mul (a := c - c0) (b := u) (A := 1 / 50000000000000000000) (B := 100) hc.1 hc.2 (by grind) u1
 have a2 := OctT.abs_mul (a := s + s0) (b := v) (A := 1 / 50000000000000000000) (B := 2000000000) hs.1 hs.2 (by grind) (by grind)
 have a3 := OctT.abs_mul (a := c - c0) (b := v) (A := 1 / 50000000000000000000) (B := 2000000000) hc.1 hc.2 (by grind) (by grind)
 have a4 := OctT.abs_mul (a := s + s0) (b := u) (A := 1 / 50000000000000000000) (B := 100) hs.1 hs.2 (by grind) u1
 have a5 := OctT.abs_mul (a := c0) (b := u) (A := 1) (B := 100) b1 b2 (by grind) u1
 have a6 := OctT.abs_mul (a := s0) (b := u) (A := 1) (B := 100) b3 b4 (by grind) u1
 rcases h with ⟨h1, h2, h3⟩ | ⟨h1, h2⟩
 ·have k1 := Rat.mul_le_mul_of_nonneg_left v0 h2
  have k2 := Rat.mul_le_mul_of_nonneg_left h1 (show 0 ≤ v by grind)
  grind
 ·have k1 := Rat.mul_le_mul_of_nonneg_left h1 (show 0 ≤ v by grind)
  grind
theorem kle {κ a b e : Rat} (h : κ + e ≤ a) (m : a ≤ b + e) : κ ≤ b := by grind
theorem apart {la lb : Int} {y x y' x' ρ R W κ : Rat} {K : Int} (A : Dirn la y x ρ R) (B : Dirn lb y' x' ρ R) (m1 : -1500000000 ≤ y) (m2 : y ≤ 1500000000) (m3 : -1500000000 ≤ x) (m4 : x ≤ 1500000000) (W0 : 0 ≤ W) (hW : (y - y') * (y - y') + (x - x') * (x - x') ≤ W * W)
  (R1 : R ≤ 2000000000) (r0 : 100000000 ≤ ρ) (k0 : 0 ≤ κ) (kS : κ + 1 / 100000000000000000 ≤ S (K * 1000000)) (hK : 0 ≤ K) (h1 : W + 110 < κ * (ρ - 1)) (h2 : 32 / 100 * R + W + 110 < ρ) (far : la - lb ≤ 500000000) : la - lb ≤ K + 3 := by
 rcases Int.lt_or_le (K + 3) (la - lb) with g | g
 ·exfalso
  obtain ⟨⟨t1, t2⟩, ⟨t3, t4⟩⟩ := turn_near (a := (lb + 3) * 1000000) W0 hW
  obtain ⟨r1, r2⟩ := rot (a := la * 1000000) (b := -((la - lb - 3) * 1000000)) (M := 1500000000) (y := y) (x := x) m1 m2 m3 m4
  rw [show la * 1000000 + -((la - lb - 3) * 1000000) = (lb + 3) * 1000000 by omega] at r1 r2
  obtain ⟨n1, n2⟩ := SC_neg ((la - lb - 3) * 1000000)
  obtain ⟨b1, b2, b3, b4⟩ := SC_bound ((la - lb - 3) * 1000000)
  refine apart_rat (κ := κ) (W := W) (ρ := ρ) (R := R) (by decide +kernel : (0 : Rat) ≤ 1 / 40000000000000000000 * 1500000000) (by decide +kernel) r1 r2 n2 n1 b1 b2 b3 b4 A.c0 A.c1 A.d0 A.d1 R1 r0 B.c3 B.d2 t1 t4 ?_
  rcases Int.lt_or_le (la - lb - 3) 200000000 with c | c
  ·left
   have m := S_mono (a := K * 1000000) (b := (la - lb - 3) * 1000000) (by omega) (by omega) (by omega)
   exact ⟨kle kS m, k0, h1⟩
  ·right
   exact ⟨C_far (by omega) (by omega), h2⟩
 ·exact g
theorem sq_add {a b c d : Rat} (h1 : -c ≤ a) (h2 : a ≤ c) (h3 : -d ≤ b) (h4 : b ≤ d) : a * a + b * b ≤ c * c + d * d := by
 have k1 := OctT.abs_mul h1 h2 h1 h2
 have k2 := OctT.abs_mul h3 h4 h3 h4
 grind
theorem arc_narrow {a b c d lo hi y0 y1 x0 x1 : Int} (Aa : At a y0 x0) (Ab : At b y0 x1) (Ac : At c y1 x0) (Ad : At d y1 x1) (E : Go.Proofs.Ytmahlfjnejbcnaa.ArcT.Ends a b c d lo hi) (b1 : a - 500000000 ≤ b ∧ b < a + 500000000) (c1 : a - 500000000 ≤ c ∧ c < a + 500000000) (d1 : a - 500000000 ≤ d ∧ d < a + 500000000)
  (hy : y0 ≤ y1) (hx : x0 ≤ x1) (m1 : -1500000000 ≤ y0) (m2 : y1 ≤ 1500000000) (m3 : -1500000000 ≤ x0) (m4 : x1 ≤ 1500000000) {W ρ R κ : Rat} {K : Int} (W0 : 0 ≤ W) (hW : ((y1 - y0 : Int) : Rat) * ((y1 - y0 : Int) : Rat) + ((x1 - x0 : Int) : Rat) * ((x1 - x0 : Int) : Rat) ≤ W * W)
  (r0 : 100000000 ≤ ρ) (R0 : 0 ≤ R) (R1 : R ≤ 2000000000) (norm : ∀ p q : Int, y0 ≤ p → p ≤ y1 → x0 ≤ q → q ≤ x1 → ρ * ρ ≤ (p : Rat) * p + (q : Rat) * q ∧ (p : Rat) * p + (q : Rat) * q ≤ R * R)
  (k0 : 0 ≤ κ) (kS : κ + 1 / 100000000000000000 ≤ S (K * 1000000)) (hK : 0 ≤ K) (hK2 : K ≤ 200000000) (h1 : W + 110 < κ * (ρ - 1)) (h2 : 32 / 100 * R + W + 110 < ρ) : hi - lo ≤ K + 6 := by
 have D : ∀ {l p q : Int}, At l p q → y0 ≤ p → p ≤ y1 → x0 ≤ q → q ≤ x1 → Dirn l (p : Rat) (q : Rat) ρ R := by
  intro l p q A p0 p1 q0 q1
  obtain ⟨n1, n2⟩ := norm p q p0 p1 q0 q1
  exact dirn_of A (by omega) (by omega) (by omega) (by omega) r0 n1 R0 n2
 have cst : ∀ z : Int, -1500000000 ≤ z → z ≤ 1500000000 → (-1500000000 : Rat) ≤ (z : Rat) ∧ (z : Rat) ≤ 1500000000 := by
  intro z z0 z1
  have e1 := cle z0
  have e2 := cle z1
  push_cast at e1 e2
  exact ⟨e1, e2⟩
 have P : ∀ {l l' p q p' q' : Int}, At l p q → At l' p' q' → y0 ≤ p → p ≤ y1 → x0 ≤ q → q ≤ x1 → y0 ≤ p' → p' ≤ y1 → x0 ≤ q' → q' ≤ x1 → l - l' ≤ 500000000 → l - l' ≤ K + 3 := by
  intro l l' p q p' q' A A' g1 g2 g3 g4 g5 g6 g7 g8 far
  obtain ⟨e1, e2⟩ := cst p (by omega) (by omega)
  obtain ⟨e3, e4⟩ := cst q (by omega) (by omega)
  refine apart (D A g1 g2 g3 g4) (D A' g5 g6 g7 g8) e1 e2 e3 e4 W0 ?_ R1 r0 k0 kS hK h1 h2 far
  refine Rat.le_trans (sq_add ?_ ?_ ?_ ?_) hW
  ·have := cle (show -(y1 - y0) ≤ p - p' by omega); push_cast at this ⊢; grind
  ·have := cle (show p - p' ≤ y1 - y0 by omega); push_cast at this ⊢; grind
  ·have := cle (show -(x1 - x0) ≤ q - q' by omega); push_cast at this ⊢; grind
  ·have := cle (show q - q' ≤ x1 - x0 by omega); push_cast at this ⊢; grind
 have ab := P Aa Ab (by omega) (by omega) (by omega) (by omega) (by omega) (by omega) (by omega) (by omega) (by omega)
 have ba := P Ab Aa (by omega) (by omega) (by omega) (by omega) (by omega) (by omega) (by omega) (by omega) (by omega)
 have ac := P Aa Ac (by omega) (by omega) (by omega) (by omega) (by omega) (by omega) (by omega) (by omega) (by omega)
 have ca := P Ac Aa (by omega) (by omega) (by omega) (by omega) (by omega) (by omega) (by omega) (by omega) (by omega)
 have ad := P Aa Ad (by omega) (by omega) (by omega) (by omega) (by omega) (by omega) (by omega) (by omega) (by omega)
 have da := P Ad Aa (by omega) (by omega) (by omega) (by omega) (by omega) (by omega) (by omega) (by omega) (by omega)
 have bc := P Ab Ac (by omega) (by omega) (by omega) (by omega) (by omega) (by omega) (by omega) (by omega) (by omega)
 have cb := P Ac Ab (by omega) (by omega) (by omega) (by omega) (by omega) (by omega) (by omega) (by omega) (by omega)
 have bd := P Ab Ad (by omega) (by omega) (by omega) (by omega) (by omega) (by omega) (by omega) (by omega) (by omega)
 have db := P Ad Ab (by omega) (by omega) (by omega) (by omega) (by omega) (by omega) (by omega) (by omega) (by omega)
 have cd := P Ac Ad (by omega) (by omega) (by omega) (by omega) (by omega) (by omega) (by omega) (by omega) (by omega)
 have dc := P Ad Ac (by omega) (by omega) (by omega) (by omega) (by omega) (by omega) (by omega) (by omega) (by omega)
 have e1 := E.lone
 have e2 := E.hone
 omega
theorem S_72 : 95 / 100 ≤ S 200000000000000 ∧ S (-200000000000000) ≤ -(949 / 1000) := by
 have h1 := C_72u
 have h0 := C_72
 have sq := SC_sq 200000000000000
 have n := (SC_neg 200000000000000).1
 have p := S_half (a := 200000000000000) (by omega) (by omega)
 unfold Nr at n
 generalize S (-200000000000000) = t at *
 generalize S 200000000000000 = s at *
 generalize C 200000000000000 = c at *
 have k := OctT.abs_mul (a := c) (b := c) (A := 31 / 100) (B := 31 / 100) (by grind) h1 (by grind) h1
 have : 95 / 100 ≤ s := by
  rcases Rat.le_total (a := 95 / 100) (b := s) with m | m
  ·exact m
  ·by_cases e : s = 95 / 100
   ·grind
   ·exfalso
    have k2 := OctT.abs_mul (a := s) (b := s) (A := 95 / 100) (B := 95 / 100) (by grind) m (by grind) m
    grind
 constructor
 ·exact this
 ·grind
structure Arcs2 (A B x y : Int) : Prop extends Arcs A B x y where
 near : -940000000 ≤ x → y ≤ 940000000 → ∃ l l', A = l - 1 ∧ B = l' + 4 ∧ -249999995 ≤ l ∧ l ≤ 249999995 ∧ -249999995 ≤ l' ∧ l' ≤ 249999995 ∧ 1000000000 * S (l * 1000000) ≤ (x : Rat) + 2 ∧ (x : Rat) ≤ 1000000000 * S ((l + 3) * 1000000) + 2 ∧ 1000000000 * S (l' * 1000000) ≤ (y : Rat) + 2 ∧ (y : Rat) ≤ 1000000000 * S ((l' + 3) * 1000000) + 2
theorem sin_range {l z r : Int} (Sn : Sin l z r) (l1 : -250000002 ≤ l) (l2 : l ≤ 249999999) : (-940000000 ≤ z → -249999990 ≤ l) ∧ (z ≤ 940000000 → l ≤ 249999990) := by
 obtain ⟨s1, s2⟩ := S_72
 constructor
 ·intro hz
  rcases Int.lt_or_le l (-249999990) with c | c
  ·exfalso
   have h := Sn.hi (l + 3) (by omega) (by omega) (by omega) (by omega)
   have m := S_mono (a := (l + 3) * 1000000) (b := -200000000000000) (by omega) (by omega) (by omega)
   have z' := cle hz
   push_cast at z'
   clear Sn
   generalize S ((l + 3) * 1000000) = a at *
   generalize S (-200000000000000) = b at *
   clear s1
   grind
  ·exact c
 ·intro hz
  rcases Int.lt_or_le 249999990 l with c | c
  ·exfalso
   have h := Sn.lo l (by omega) (by omega) (by omega) (by omega)
   have m := S_mono (a := 200000000000000) (b := l * 1000000) (by omega) (by omega) (by omega)
   have z' := cle hz
   push_cast at z'
   clear Sn
   generalize S (l * 1000000) = a at *
   generalize S 200000000000000 = b at *
   clear s2
   grind
  ·exact c
theorem obE {α β : Type} {g : Nat → Option α} {f : Nat → α → Option β} {a : α} {r : β} (h : Ev g a) (k : Ev (fun n => f n a) r) : Ev (fun n => Sx.ob (g n) (f n)) r := Ev.congr (fun n => Sx.ob_eq _ _) (ev_bind h k)
theorem oifN {β : Type} {c : Prop} [inst : Decidable c] {A B : Option β} (h : ¬ c) : Sx.oif c A B = B := by rw [Sx.oif_eq, if_neg h]
theorem iw0 (x : Int) : Go.IntKind.i64.wrap x = wrap64 x := i64_w x
theorem arcsin_ev2 {lo hi : Int} (h : sp lo hi = 0) : ∃ A B, Ev (fun k => trig_ArcSin.f k lo hi) (A, B, 0) ∧ Arcs2 A B (cp lo) (cp hi) := by
 have hc := interval_Check_ev lo hi
 rw [h] at hc
 obtain ⟨h0, h1, h2⟩ := sp_zero h
 obtain ⟨c1, c2⟩ := cp_bound lo
 obtain ⟨d1, d2⟩ := cp_bound hi
 have cm := cp_mono h1
 obtain ⟨r, l, e1, e2, At1, S1, r0, r1, r2, l1, l2, z1, z2⟩ := root_of c1 c2
 have X : ∃ r' l', Ev (fun k => trig_root.f k (1000000000000000000 - cp hi * cp hi)) r' ∧ Ev (fun k => trig_direction.f k (cp hi) r') (l', l' + 3) ∧ At l' (cp hi) r' ∧ Sin l' (cp hi) r' ∧ 0 ≤ r' ∧ r' * r' ≤ 1000000000000000000 - cp hi * cp hi ∧ 1000000000000000000 - cp hi * cp hi < (r' + 1) * (r' + 1) ∧ -250000002 ≤ l' ∧ l' ≤ 249999999 ∧ 0 ≤ cp hi * cp hi ∧ cp hi * cp hi ≤ 1000000000000000000 ∧ (cp lo = cp hi → l = l') := by
  by_cases c : cp lo = cp hi
  ·rw [← c]
   exact ⟨r, l, e1, e2, At1, S1, r0, r1, r2, l1, l2, z1, z2, fun _ => rfl⟩
  ·obtain ⟨r', l', q1, q2, q3, q4, q5, q6, q7, q8, q9, q10, q11⟩ := root_of d1 d2
   exact ⟨r', l', q1, q2, q3, q4, q5, q6, q7, q8, q9, q10, q11, fun h => absurd h c⟩
 obtain ⟨r', l', e3, e4, At2, S2, r0', r1', r2', l3, l4, z3, z4, same⟩ := X
 have ord := sin_order At1 At2 S1 S2 r0 r0' cm c1 d2 r1 r2 r1' r2' l1 l2 l3 l4
 have m1 := mxl (a := -250000000) (b := l - 1)
 have m2 := mx_or (-250000000) (l - 1)
 have m3 := mnl (a := 250000000) (b := l' + 4)
 have m4 := mn_or 250000000 (l' + 4)
 refine ⟨mx (-250000000) (l - 1), mn 250000000 (l' + 4), ?_, ⟨⟨m1.1, m3.1, by omega, ?_, ?_, fun hs => by have := same hs; omega⟩, ?_⟩⟩
 ·unfold trig_ArcSin.f
  refine obE hc ?_
  refine Ev.congr (fun k => oifN (by simp)) ?_
  show Ev (fun k => Sx.ob (trig_root.f k (Go.IntKind.i64.wrap (1000000000000000000 - Go.IntKind.i64.wrap (cp lo * cp lo)))) fun t2 => Sx.ob (trig_direction.f k (cp lo) t2) fun t3 => Sx.ob (trig_root.f k (Go.IntKind.i64.wrap (1000000000000000000 - (Go.IntKind.i64.wrap (cp hi * cp hi))))) fun t4 => Sx.ob (trig_direction.f k (cp hi) t4) fun t5 => (some (mx (-250000000) (Go.IntKind.i64.wrap (t3.1 - 1)), mn 250000000 (Go.IntKind.i64.wrap (t5.2 + 1)), 0))) _
  rw [iw0, iw0, iw0, iw0, w64 (x := cp lo * cp lo) (by omega) (by omega), w64 (x := 1000000000000000000 - cp lo * cp lo) (by omega) (by omega), w64 (x := cp hi * cp hi) (by omega) (by omega), w64 (x := 1000000000000000000 - cp hi * cp hi) (by omega) (by omega)]
  refine obE e1 (obE e2 (obE e3 (obE e4 (ev_some 0 fun k => ?_))))
  simp only
  rw [iw0, iw0, w64 (x := l - 1) (by omega) (by omega), w64 (x := l' + 3 + 1) (by omega) (by omega), show l' + 3 + 1 = l' + 4 by omega]
 ·rcases m2 with m | m
  ·rw [m]
   have q := S_q.2.2
   have := cle c1
   have e9 : ((-1000000000 : Int) : Rat) = -1000000000 := rfl
   rw [e9] at this
   generalize S (-250000000 * 1000000) = x at *
   generalize (cp lo : Rat) = y at *
   clear S1 S2 At1 At2 e1 e2 e3 e4
   grind
  ·rw [m]
   exact S1.lo (l - 1) (by omega) (by omega) (by omega) (by omega)
 ·rcases m4 with m | m
  ·rw [m]
   have q := S_q.1.1
   have := cle d2
   have e9 : ((1000000000 : Int) : Rat) = 1000000000 := rfl
   rw [e9] at this
   generalize S (250000000 * 1000000) = x at *
   generalize (cp hi : Rat) = y at *
   clear S1 S2 At1 At2 e1 e2 e3 e4
   grind
  ·rw [m]
   exact S2.hi (l' + 4) (by omega) (by omega) (by omega) (by omega)
 ·intro hx hy
  obtain ⟨g1, g2⟩ := sin_range S1 l1 l2
  obtain ⟨g3, g4⟩ := sin_range S2 l3 l4
  have g1 := g1 hx
  have g2 := g2 (by omega)
  have g3 := g3 (by omega)
  have g4 := g4 hy
  exact ⟨l, l', by omega, by omega, by omega, by omega, by omega, by omega, S1.lo l (by omega) (by omega) (by omega) (by omega), S1.hi (l + 3) (by omega) (by omega) (by omega) (by omega), S2.lo l' (by omega) (by omega) (by omega) (by omega), S2.hi (l' + 3) (by omega) (by omega) (by omega) (by omega)⟩
end Go.Proofs.Ytmahlfjnejbcnaa.NarrowT
