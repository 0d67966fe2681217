/- An arc of a narrow box is narrow: a law for small distances too. -/
import Derived.Test.YtmahlfjnejbcnaaTopSeasonsn48
namespace Go.Proofs.Ytmahlfjnejbcnaa.NarrowD
open Go.RowKit YtmahlfjnejbcnaaW.PrintWords YtmahlfjnejbcnaaW.PrintLast YtmahlfjnejbcnaaW.PrintMore PAll Base Turn OctT SinT RefT Circ Over Cone Arcs ArcT ArcSinT NarrowT
set_option linter.unusedVariables false
set_option linter.unusedSimpArgs false
theorem ge_of_sq {v ρ : Rat} (h0 : 10000000 ≤ ρ) (h : ρ * ρ - 10000 ≤ v * v) (v0 : -2 ≤ v) : ρ - 1 ≤ v := by
 rcases Rat.le_total (a := ρ - 1) (b := v) with n | n
 ·exact n
 ·by_cases e : v = ρ - 1
  ·grind
  ·exfalso
   have p : v < ρ - 1 := by grind
   have k1 := OctT.abs_mul (a := v) (b := v) (A := ρ - 1) (B := ρ - 1) (by grind) (by grind) (by grind) (by grind)
   grind
theorem dirn_of {l y x : Int} {ρ R : Rat} (A : At l y x) (y1 : -1500000000 ≤ y) (y2 : y ≤ 1500000000) (x1 : -1500000000 ≤ x) (x2 : x ≤ 1500000000) (r0 : 10000000 ≤ ρ) (r1 : ρ * ρ ≤ (y : Rat) * y + (x : Rat) * x) (R0 : 0 ≤ R) (R1 : (y : Rat) * y + (x : Rat) * x ≤ R * R) : Dirn l (y : Rat) (x : Rat) ρ R := by
 obtain ⟨N, b, n1, n2, n3, n4, n0, hN⟩ := A
 have N1 : (N : Rat) ≤ 1500000000 := by
  have : N ≤ 1500000000 := by omega
  have := cle this
  push_cast at this
  exact this
 have N0 : (0 : Rat) ≤ (N : Rat) := by have := cle (show 0 ≤ N by omega); push_cast at this; exact this
 have e1 := neg_le_cast n1
 have e2 := cle n2
 have e3 := neg_le_cast n3
 have e4 := cle n4
 have m0 : 0 ≤ 190 / 100000000000 * (N : Rat) := Rat.mul_nonneg (by decide +kernel) N0
 have p0 := Rat.le_trans m0 b.2.1
 have q0 : 0 ≤ -cr ((l + 3) * 1000000) (y : Rat) (x : Rat) := nn_of m0 b.2.2
 obtain ⟨s1, s2⟩ := sides_small N0 e1 e2 e3 e4 p0 q0
 obtain ⟨_, _, t1⟩ := near_parts (a := l) N0 e1 e2 e3 e4 p0 q0 (by omega) (by omega)
 obtain ⟨_, _, t2⟩ := near_parts (a := l + 3) N0 e1 e2 e3 e4 p0 q0 (by omega) (by omega)
 have l1 := len_at (l * 1000000) (y : Rat) (x : Rat)
 have l2 := len_at ((l + 3) * 1000000) (y : Rat) (x : Rat)
 have key : (cr (l * 1000000) (y : Rat) (x : Rat) ≤ 100 ∧ -100 ≤ cr ((l + 3) * 1000000) (y : Rat) (x : Rat) ∧ cr ((l + 3) * 1000000) (y : Rat) (x : Rat) ≤ 0) ∧ ρ - 1 ≤ dt (l * 1000000) (y : Rat) (x : Rat) ∧ dt (l * 1000000) (y : Rat) (x : Rat) ≤ R ∧ ρ - 1 ≤ dt ((l + 3) * 1000000) (y : Rat) (x : Rat) := by
  clear b n1 n2 n3 n4 hN y1 y2 x1 x2 e1 e2 e3 e4
  generalize cr (l * 1000000) (y : Rat) (x : Rat) = c at *
  generalize cr ((l + 3) * 1000000) (y : Rat) (x : Rat) = c' at *
  generalize dt (l * 1000000) (y : Rat) (x : Rat) = d at *
  generalize dt ((l + 3) * 1000000) (y : Rat) (x : Rat) = d' at *
  generalize (y : Rat) * y + (x : Rat) * x = Q at *
  generalize (N : Rat) = M at *
  have c1 : c ≤ 100 := by grind
  have c2 : -100 ≤ c' := by grind
  have c3 : c' ≤ 0 := by grind
  have k1 := OctT.abs_mul (a := c) (b := c) (A := 100) (B := 100) (by grind) c1 (by grind) c1
  have k2 := OctT.abs_mul (a := c') (b := c') (A := 100) (B := 100) c2 (by grind) c2 (by grind)
  have k3 : 0 ≤ c * c := Turn.sq_nonneg c
  have f1 : -2 ≤ d := by grind
  have f2 : -2 ≤ d' := by grind
  have g1 : ρ * ρ - 10000 ≤ d * d := by grind
  have g2 : ρ * ρ - 10000 ≤ d' * d' := by grind
  have g3 : d * d ≤ R * R := by grind
  exact ⟨⟨c1, c2, c3⟩, NarrowD.ge_of_sq r0 g1 f1, (le_of_sq R0 g3).1, NarrowD.ge_of_sq r0 g2 f2⟩
 exact ⟨p0, key.1.1, key.1.2.1, key.1.2.2, key.2.1, key.2.2.1, key.2.2.2⟩
theorem far_rat {X Y X' Y' u v W ρ : Rat} (v0 : ρ - 1 ≤ v) (r0 : 10000000 ≤ ρ) (u0 : 0 ≤ u) (u1 : u ≤ 100) (x0 : X' ≤ 0) (x1 : -100 ≤ X') (dX : X - X' ≤ W) (eX : -W ≤ X - X') (y0 : ρ - 1 ≤ Y') (dY : -W ≤ Y - Y') (W0 : 0 ≤ W) (W1 : W ≤ 10000) (hY : Y ≤ 32 / 100 * v + 101) (len : X * X + Y * Y = u * u + v * v) : False := by
 have k1 := OctT.abs_mul (a := X) (b := X) (A := 10100) (B := 10100) (by grind) (by grind) (by grind) (by grind)
 have k2 := OctT.abs_mul (a := Y) (b := Y) (A := 1 / 2 * v) (B := 1 / 2 * v) (by grind) (by grind) (by grind) (by grind)
 have k3 := Rat.mul_le_mul_of_nonneg_left (show (1000000 : Rat) ≤ v by grind) (show 0 ≤ v by grind)
 have k4 := Turn.sq_nonneg u
 have k5 : (1000000 : Rat) * 1000000 ≤ v * v := by grind
 have e : (1 / 2 * v) * (1 / 2 * v) = 1 / 4 * (v * v) := by grind
 rw [e] at k2
 generalize v * v = a at *
 generalize u * u = b at *
 generalize X * X = x at *
 generalize Y * Y = y at *
 clear e hY y0 dY dX eX x0 x1 v0 r0 u0 u1 W0 W1 k3
 grind
theorem near_rat {c s c0 s0 u v X X' W ρ κ e : Rat} (e0 : 0 ≤ e) (e1 : e ≤ 1 / 10) (hX : Nr (X - (c * u - s * v)) e) (hc : Nr (c - c0) (1 / 50000000000000000000)) (hs : Nr (s + s0) (1 / 50000000000000000000)) (u0 : 0 ≤ u) (u1 : u ≤ 100) (v0 : ρ - 1 ≤ v) (v1 : v ≤ 4000000000) (r0 : 10000000 ≤ ρ) (x0 : X' ≤ 0) (dX : X - X' ≤ W)
  (k0 : 0 ≤ κ) (ks : κ ≤ s0) (c1 : -(1 / 1000) ≤ c0) (h : W + 1 < κ * (ρ - 1)) : False := by
 unfold Nr at *
 have a1 := OctT.abs_mul (a := c - c0) (b := u) (A := 1 / 50000000000000000000) (B := 100) hc.1 hc.2 (by grind) u1
 have a2 := OctT.abs_mul (a := s + s0) (b := v) (A := 1 / 50000000000000000000) (B := 4000000000) hs.1 hs.2 (by grind) v1
 have a3 := Rat.mul_le_mul_of_nonneg_left c1 u0
 have k1 := Rat.mul_le_mul_of_nonneg_left v0 k0
 have k2 := Rat.mul_le_mul_of_nonneg_left ks (show 0 ≤ v by grind)
 grind
theorem far_y {c s c0 s0 u v Y e : Rat} (e0 : 0 ≤ e) (e1 : e ≤ 1 / 10) (hY : Nr (Y - (c * v + s * u)) e) (hc : Nr (c - c0) (1 / 50000000000000000000)) (hs : Nr (s + s0) (1 / 50000000000000000000)) (b3 : -1 ≤ s0) (b4 : s0 ≤ 1) (u0 : 0 ≤ u) (u1 : u ≤ 100) (v0 : 0 ≤ v) (v1 : v ≤ 4000000000) (h : c0 ≤ 32 / 100) : Y ≤ 32 / 100 * v + 101 := by
 unfold Nr at *
 have a3 := OctT.abs_mul (a := c - c0) (b := v) (A := 1 / 50000000000000000000) (B := 4000000000) hc.1 hc.2 (by grind) v1
 have a4 := OctT.abs_mul (a := s + s0) (b := u) (A := 1 / 50000000000000000000) (B := 100) hs.1 hs.2 (by grind) u1
 have a6 := OctT.abs_mul (a := s0) (b := u) (A := 1) (B := 100) b3 b4 (by grind) u1
 have k1 := Rat.mul_le_mul_of_nonneg_left h v0
 grind
theorem apart {la lb : Int} {y x y' x' ρ W κ : Rat} {K : Int} (A : Dirn la y x ρ 3000000000) (B : Dirn lb y' x' ρ 3000000000) (m1 : -1500000000 ≤ y) (m2 : y ≤ 1500000000) (m3 : -1500000000 ≤ x) (m4 : x ≤ 1500000000) (W0 : 0 ≤ W) (W1 : W ≤ 10000) (hW : (y - y') * (y - y') + (x - x') * (x - x') ≤ W * W)
  (r0 : 10000000 ≤ ρ) (k0 : 0 ≤ κ) (kS : κ + 1 / 100000000000000000 ≤ S (K * 1000000)) (hK : 0 ≤ K) (h1 : W + 1 < κ * (ρ - 1)) (far : la - lb ≤ 500000000) : la - lb ≤ K + 3 := by
 rcases Int.lt_or_le (K + 3) (la - lb) with g | g
 ·exfalso
  obtain ⟨⟨t1, t2⟩, ⟨t3, t4⟩⟩ := turn_near (a := (lb + 3) * 1000000) W0 hW
  obtain ⟨r1, r2⟩ := rot (a := la * 1000000) (b := -((la - lb - 3) * 1000000)) (M := 1500000000) (y := y) (x := x) m1 m2 m3 m4
  rw [show la * 1000000 + -((la - lb - 3) * 1000000) = (lb + 3) * 1000000 by omega] at r1 r2
  obtain ⟨n1, n2⟩ := SC_neg ((la - lb - 3) * 1000000)
  obtain ⟨b1, b2, b3, b4⟩ := SC_bound ((la - lb - 3) * 1000000)
  have d0 := A.d0
  have d1 := A.d1
  rcases Int.lt_or_le (la - lb - 3) 200000000 with c | c
  ·have m := S_mono (a := K * 1000000) (b := (la - lb - 3) * 1000000) (by omega) (by omega) (by omega)
   have q := C_quarter (a := la - lb - 3) (by omega) (by omega)
   exact near_rat (by decide +kernel : (0 : Rat) ≤ 1 / 40000000000000000000 * 1500000000) (by decide +kernel) r1 n2 n1 A.c0 A.c1 A.d0 (Rat.le_trans d1 (by decide +kernel)) r0 B.c3 t1 k0 (kle kS m) (Rat.le_trans (by decide +kernel) q) h1
  ·have f := C_far (d := (la - lb - 3) * 1000000) (by omega) (by omega)
   have y9 := far_y (by decide +kernel : (0 : Rat) ≤ 1 / 40000000000000000000 * 1500000000) (by decide +kernel) r2 n2 n1 b3 b4 A.c0 A.c1 (by clear r1 r2 n1 n2 t1 t2 t3 t4 hW h1 kS; grind) (Rat.le_trans d1 (by decide +kernel)) f
   have l1 := len_at (la * 1000000) y x
   have l2 := len_at ((lb + 3) * 1000000) y x
   exact far_rat A.d0 r0 A.c0 A.c1 B.c3 B.c2 t1 t2 B.d2 t4 W0 W1 y9 (by rw [l2, l1])
 ·exact g
theorem arc_narrow {a b c d lo hi y0 y1 x0 x1 : Int} (Aa : At a y0 x0) (Ab : At b y0 x1) (Ac : At c y1 x0) (Ad : At d y1 x1) (E : Go.Proofs.Ytmahlfjnejbcnaa.ArcT.Ends a b c d lo hi) (b1 : a - 500000000 ≤ b ∧ b < a + 500000000) (c1 : a - 500000000 ≤ c ∧ c < a + 500000000) (d1 : a - 500000000 ≤ d ∧ d < a + 500000000)
  (hy : y0 ≤ y1) (hx : x0 ≤ x1) (m1 : -1500000000 ≤ y0) (m2 : y1 ≤ 1500000000) (m3 : -1500000000 ≤ x0) (m4 : x1 ≤ 1500000000) {W ρ κ : Rat} {K : Int} (W0 : 0 ≤ W) (W1 : W ≤ 10000) (hW : ((y1 - y0 : Int) : Rat) * ((y1 - y0 : Int) : Rat) + ((x1 - x0 : Int) : Rat) * ((x1 - x0 : Int) : Rat) ≤ W * W)
  (r0 : 10000000 ≤ ρ) (norm : ∀ p q : Int, y0 ≤ p → p ≤ y1 → x0 ≤ q → q ≤ x1 → ρ * ρ ≤ (p : Rat) * p + (q : Rat) * q)
  (k0 : 0 ≤ κ) (kS : κ + 1 / 100000000000000000 ≤ S (K * 1000000)) (hK : 0 ≤ K) (hK2 : K ≤ 200000000) (h1 : W + 1 < κ * (ρ - 1)) : hi - lo ≤ K + 6 := by
 have cst : ∀ z : Int, -1500000000 ≤ z → z ≤ 1500000000 → (-1500000000 : Rat) ≤ (z : Rat) ∧ (z : Rat) ≤ 1500000000 := by
  intro z z0 z1
  have e1 := cle z0
  have e2 := cle z1
  push_cast at e1 e2
  exact ⟨e1, e2⟩
 have D : ∀ {l p q : Int}, At l p q → y0 ≤ p → p ≤ y1 → x0 ≤ q → q ≤ x1 → Dirn l (p : Rat) (q : Rat) ρ 3000000000 := by
  intro l p q A p0 p1 q0 q1
  obtain ⟨e1, e2⟩ := cst p (by omega) (by omega)
  obtain ⟨e3, e4⟩ := cst q (by omega) (by omega)
  have k1 := OctT.abs_mul (a := (p : Rat)) (b := (p : Rat)) (A := 1500000000) (B := 1500000000) e1 e2 e1 e2
  have k2 := OctT.abs_mul (a := (q : Rat)) (b := (q : Rat)) (A := 1500000000) (B := 1500000000) e3 e4 e3 e4
  exact NarrowD.dirn_of A (by omega) (by omega) (by omega) (by omega) r0 (norm p q p0 p1 q0 q1) (by decide +kernel) (by clear norm hW h1 kS; grind)
 have P : ∀ {l l' p q p' q' : Int}, At l p q → At l' p' q' → y0 ≤ p → p ≤ y1 → x0 ≤ q → q ≤ x1 → y0 ≤ p' → p' ≤ y1 → x0 ≤ q' → q' ≤ x1 → l - l' ≤ 500000000 → l - l' ≤ K + 3 := by
  intro l l' p q p' q' A A' g1 g2 g3 g4 g5 g6 g7 g8 far
  obtain ⟨e1, e2⟩ := cst p (by omega) (by omega)
  obtain ⟨e3, e4⟩ := cst q (by omega) (by omega)
  refine NarrowD.apart (D A g1 g2 g3 g4) (D A' g5 g6 g7 g8) e1 e2 e3 e4 W0 W1 ?_ r0 k0 kS hK h1 far
  refine Rat.le_trans (sq_add ?_ ?_ ?_ ?_) hW
  ·have := cle (show -(y1 - y0) ≤ p - p' by omega); push_cast at this ⊢; grind
  ·have := cle (show p - p' ≤ y1 - y0 by omega); push_cast at this ⊢; grind
  ·have := cle (show -(x1 - x0) ≤ q - q' by omega); push_cast at this ⊢; grind
  ·have := cle (show q - q' ≤ x1 - x0 by omega); push_cast at this ⊢; grind
 have ab := P Aa Ab (by omega) (by omega) (by omega) (by omega) (by omega) (by omega) (by omega) (by omega) (by omega)
 have ba := P Ab Aa (by omega) (by omega) (by omega) (by omega) (by omega) (by omega) (by omega) (by omega) (by omega)
 have ac := P Aa Ac (by omega) (by omega) (by omega) (by omega) (by omega) (by omega) (by omega) (by omega) (by omega)
 have ca := P Ac Aa (by omega) (by omega) (by omega) (by omega) (by omega) (by omega) (by omega) (by omega) (by omega)
 have ad := P Aa Ad (by omega) (by omega) (by omega) (by omega) (by omega) (by omega) (by omega) (by omega) (by omega)
 have da := P Ad Aa (by omega) (by omega) (by omega) (by omega) (by omega) (by omega) (by omega) (by omega) (by omega)
 have bc := P Ab Ac (by omega) (by omega) (by omega) (by omega) (by omega) (by omega) (by omega) (by omega) (by omega)
 have cb := P Ac Ab (by omega) (by omega) (by omega) (by omega) (by omega) (by omega) (by omega) (by omega) (by omega)
 have bd := P Ab Ad (by omega) (by omega) (by omega) (by omega) (by omega) (by omega) (by omega) (by omega) (by omega)
 have db := P Ad Ab (by omega) (by omega) (by omega) (by omega) (by omega) (by omega) (by omega) (by omega) (by omega)
 have cd := P Ac Ad (by omega) (by omega) (by omega) (by omega) (by omega) (by omega) (by omega) (by omega) (by omega)
 have dc := P Ad Ac (by omega) (by omega) (by omega) (by omega) (by omega) (by omega) (by omega) (by omega) (by omega)
 have e1 := E.lone
 have e2 := E.hone
 omega
end Go.Proofs.Ytmahlfjnejbcnaa.NarrowD
