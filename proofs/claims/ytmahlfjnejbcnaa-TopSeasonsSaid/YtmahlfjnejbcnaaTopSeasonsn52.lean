/- A direction that lies in a box lies, as an angle, in the arcs of the box. -/
import Derived.Test.YtmahlfjnejbcnaaTopSeasonsn50
import Derived.Test.YtmahlfjnejbcnaaTopSeasonsn51
namespace Go.Proofs.Ytmahlfjnejbcnaa.SkyV
open Go Go.RowKit YtmahlfjnejbcnaaW.PrintWords YtmahlfjnejbcnaaW.PrintLast YtmahlfjnejbcnaaW.PrintMore PAll Base Turn OctT SinT RefT Circ Over Units Args Vals Cone Arcs ArcT ArcSinT NarrowT EqT EqN Box
set_option linter.unusedVariables false
set_option linter.unusedSimpArgs false
theorem ivt {f : Int → Rat} {δ : Rat} (d0 : 0 ≤ δ) (st : ∀ t, f t - f (t + 1) ≤ δ) : ∀ (n : Nat) (lo : Int), 0 ≤ f lo → f (lo + (n : Int)) ≤ 0 → ∃ t, lo ≤ t ∧ t ≤ lo + (n : Int) ∧ 0 ≤ f t ∧ f t ≤ δ := by
 intro n
 induction n with
 | zero =>
  intro lo h0 h1
  rw [show lo + ((0 : Nat) : Int) = lo by omega] at h1
  exact ⟨lo, by omega, by omega, h0, Rat.le_trans h1 d0⟩
 | succ n ih =>
  intro lo h0 h1
  rcases Rat.le_total (a := f lo) (b := δ) with m | m
  ·exact ⟨lo, by omega, by omega, h0, m⟩
  ·have s := st lo
   rw [show lo + ((n + 1 : Nat) : Int) = lo + 1 + (n : Int) by omega] at h1
   obtain ⟨t, t0, t1, t2, t3⟩ := ih (lo + 1) (by grind) h1
   exact ⟨t, by omega, by omega, t2, t3⟩
theorem ivt2 {f : Int → Rat} {δ : Rat} (d0 : 0 ≤ δ) (st : ∀ t, f t - f (t + 1) ≤ δ) {lo hi : Int} (h : lo ≤ hi) (h0 : 0 ≤ f lo) (h1 : f hi ≤ 0) : ∃ t, lo ≤ t ∧ t ≤ hi ∧ 0 ≤ f t ∧ f t ≤ δ := by
 have e : lo + ((hi - lo).toNat : Int) = hi := by omega
 obtain ⟨t, a, b, c, d⟩ := ivt d0 st (hi - lo).toNat lo h0 (by rw [e]; exact h1)
 exact ⟨t, a, by omega, c, d⟩
theorem S_step (t : Int) : Nr (S (t + 1) - S t) (65 / 10000000000000000) := by
 have l := S_lip (a := t) (b := t + 1) (by omega)
 rw [show t + 1 - t = 1 by omega] at l
 have k : kap * ((1 : Int) : Rat) + 1 / 10000000000000000000 ≤ 65 / 10000000000000000 := by decide +kernel
 exact nr_more l k
theorem C_step (t : Int) : Nr (C (t + 1) - C t) (66 / 10000000000000000) := by
 have l := S_step (t + 250000000000000)
 have q1 := (quarter_at t).1
 have q2 := (quarter_at (t + 1)).1
 rw [show t + 1 + 250000000000000 = t + 250000000000000 + 1 by omega] at q2
 unfold Nr at *
 generalize S (t + 250000000000000 + 1) = a at *
 generalize S (t + 250000000000000) = b at *
 generalize C (t + 1) = c at *
 generalize C t = d at *
 constructor <;> grind
theorem cr_step {Y X : Rat} (t : Int) (y0 : -1 ≤ Y) (y1 : Y ≤ 1) (x0 : -1 ≤ X) (x1 : X ≤ 1) : cr t Y X - cr (t + 1) Y X ≤ 2 / 100000000000000 := by
 have a := S_step t
 have b := C_step t
 have k1 := OctT.abs_mul b.1 b.2 y0 y1
 have k2 := OctT.abs_mul a.1 a.2 x0 x1
 unfold cr
 generalize S (t + 1) = p at *
 generalize S t = q at *
 generalize C (t + 1) = r at *
 generalize C t = s at *
 clear a b
 grind
theorem sign_rat {c0 c d s k : Rat} (r : c0 - (k * c - s * d) ≤ 1 / 1000000000000000000) (h0 : 5 / 10000000000 ≤ c0) (c1 : 0 ≤ c) (c2 : c ≤ 2 / 100000000000000) (k0 : -1 ≤ k) (k1 : k ≤ 1) (hs : s ≤ 1 / 1000000000000000) (d0 : -2 ≤ d) : 0 ≤ d := by
 rcases Rat.le_total (a := 0) (b := d) with m | m
 ·exact m
 ·exfalso
  have a := OctT.abs_mul (a := k) (b := c) (A := 1) (B := 2 / 100000000000000) k0 k1 (by grind) c2
  have b := Rat.mul_le_mul_of_nonneg_left hs (show 0 ≤ -d by grind)
  grind
theorem neg_small {s s' : Rat} (n : s' + s ≤ 1 / 50000000000000000000) (h : 0 ≤ s + 1 / 100000000000000000) : s' ≤ 1 / 1000000000000000 := by grind
theorem dt_low {Y X : Rat} (t : Int) (y0 : -1 ≤ Y) (y1 : Y ≤ 1) (x0 : -1 ≤ X) (x1 : X ≤ 1) : -2 ≤ dt t Y X := by
 obtain ⟨b1, b2, b3, b4⟩ := SC_bound t
 have k1 := OctT.abs_mul b1 b2 x0 x1
 have k2 := OctT.abs_mul b3 b4 y0 y1
 unfold dt
 generalize C t = c at *
 generalize S t = s at *
 grind
theorem angle_of {lo hi : Int} {Y X : Rat} (h : lo ≤ hi) (w : hi - lo ≤ 250000000000000) (y0 : -1 ≤ Y) (y1 : Y ≤ 1) (x0 : -1 ≤ X) (x1 : X ≤ 1) (h0 : 5 / 10000000000 ≤ cr lo Y X) (h1 : cr hi Y X ≤ 0) : ∃ t, lo ≤ t ∧ t ≤ hi ∧ 0 ≤ cr t Y X ∧ cr t Y X ≤ 2 / 100000000000000 ∧ 0 ≤ dt t Y X := by
 obtain ⟨t, t0, t1, t2, t3⟩ := ivt2 (f := fun t => cr t Y X) (δ := 2 / 100000000000000) (by decide +kernel) (fun t => cr_step t y0 y1 x0 x1) h (Rat.le_trans (by decide +kernel) h0) h1
 refine ⟨t, t0, t1, t2, t3, ?_⟩
 have r := (rot (a := t) (b := -(t - lo)) (M := 1) y0 y1 x0 x1).1
 rw [show t + -(t - lo) = lo by omega] at r
 have s0 := S_mono (a := 0) (b := t - lo) (by omega) (by omega) (by omega)
 rw [S_zero] at s0
 have n := (SC_neg (t - lo)).1
 have b := SC_bound (-(t - lo))
 have b2 := (SC_bound (t - lo)).2.2
 exact sign_rat (Rat.le_trans r.2 (by decide +kernel)) h0 t2 t3 b.1 b.2.1 (neg_small n.2 s0) (dt_low t y0 y1 x0 x1)
theorem two_nr {p q e : Rat} (k1 : -(1 * e) ≤ p ∧ p ≤ 1 * e) (k2 : -(1 * e) ≤ q ∧ q ≤ 1 * e) : Nr p e ∧ Nr (-q) e := by
 unfold Nr
 constructor <;> constructor <;> grind
theorem parts_of {t : Int} {Y X : Rat} (h0 : 0 ≤ cr t Y X) (h1 : cr t Y X ≤ 2 / 100000000000000) : Nr (Y - S t * dt t Y X) (2 / 100000000000000) ∧ Nr (X - C t * dt t Y X) (2 / 100000000000000) := by
 have e1 : Y - S t * dt t Y X = C t * cr t Y X := by
  have q := SC_sq t
  unfold cr dt
  generalize C t = c at *
  generalize S t = s at *
  have : c * (c * Y - s * X) + s * (c * X + s * Y) = (c * c + s * s) * Y := by grind
  grind
 have e2 : X - C t * dt t Y X = -(S t * cr t Y X) := by
  have q := SC_sq t
  unfold cr dt
  generalize C t = c at *
  generalize S t = s at *
  have : c * (c * X + s * Y) - s * (c * Y - s * X) = (c * c + s * s) * X := by grind
  grind
 obtain ⟨b1, b2, b3, b4⟩ := SC_bound t
 have n1 : -(2 / 100000000000000) ≤ cr t Y X := Rat.le_trans (by decide +kernel) h0
 rw [e1, e2]
 have k1 := OctT.abs_mul (a := C t) (b := cr t Y X) (A := 1) (B := 2 / 100000000000000) b1 b2 n1 h1
 have k2 := OctT.abs_mul (a := S t) (b := cr t Y X) (A := 1) (B := 2 / 100000000000000) b3 b4 n1 h1
 clear e1 e2 n1 h0 h1
 generalize C t * cr t Y X = p at *
 generalize S t * cr t Y X = q at *
 exact two_nr k1 k2
theorem sharp_rat {s3 X p q sa sb N : Rat} (Np : 0 < N) (s0 : 188 / 10000000000 ≤ s3) (c : Nr (s3 * X - (p * sa + q * sb)) (6 * (1 / 10000000000000000000) * N)) (p0 : 190 / 100000000000 * N ≤ p) (p1 : p ≤ 1 / 20000000 * N) (q0 : 0 ≤ q) (q1 : q ≤ 1 / 20000000 * N) (ha : s3 ≤ sa + 2 / 100000000000000000) (hb : 0 ≤ sb + 2 / 100000000000000000) : 170 / 100000000000 * N ≤ X := by
 unfold Nr at c
 have N0 : 0 ≤ N := by grind
 have k1 := Rat.mul_le_mul_of_nonneg_left ha (show 0 ≤ p by grind)
 have k2 := Rat.mul_le_mul_of_nonneg_left hb q0
 have k3 := Rat.mul_le_mul_of_nonneg_left p0 (show 0 ≤ s3 by grind)
 have k4 := Rat.mul_le_mul_of_nonneg_left s0 N0
 rcases Rat.le_total (a := 170 / 100000000000 * N) (b := X) with m | m
 ·exact m
 ·by_cases e : X = 170 / 100000000000 * N
  ·grind
  ·exfalso
   have k5 := Rat.mul_le_mul_of_nonneg_left m (show 0 ≤ s3 by grind)
   have k6 : s3 * N * (20 / 100000000000) ≤ 6 * (1 / 10000000000000000000) * N + (1 / 20000000 * N) * (4 / 100000000000000000) := by grind
   have k7 : 188 / 10000000000 * N * (20 / 100000000000) ≤ 6 * (1 / 10000000000000000000) * N + (1 / 20000000 * N) * (4 / 100000000000000000) := by grind
   grind
theorem mo {a b : Rat} (h : a ≤ b + 1 / 100000000000000000) : a ≤ b + 2 / 100000000000000000 := by grind
theorem ng {a b : Rat} (h : a ≤ -b) : b ≤ -a := by grind
theorem fin1 {N c : Rat} (h : 560000000 ≤ N) (k : 170 / 100000000000 * N ≤ c) : 9 / 10 ≤ c := by grind
theorem fin2 {N c : Rat} (h : 560000000 ≤ N) (k : c ≤ -(170 / 100000000000 * N)) : c ≤ -(9 / 10) := by grind
theorem sharp_rat2 {s3 X p q sa sb sa' sb' N : Rat} (Np : 0 < N) (s0 : 188 / 10000000000 ≤ s3) (c : Nr (s3 * X - (p * sb' + q * sa')) (6 * (1 / 10000000000000000000) * N)) (p0 : 0 ≤ p) (p1 : p ≤ 1 / 20000000 * N) (q0 : 190 / 100000000000 * N ≤ q) (q1 : q ≤ 1 / 20000000 * N)
  (ga : Nr (sa' + sa) (1 / 50000000000000000000)) (gb : Nr (sb' + sb) (1 / 50000000000000000000)) (ha : s3 ≤ sa + 1 / 100000000000000000) (hb : 0 ≤ sb + 1 / 100000000000000000) : X ≤ -(170 / 100000000000 * N) := by
 have c' : Nr (s3 * -X - (q * -sa' + p * -sb')) (6 * (1 / 10000000000000000000) * N) := by
  have e : s3 * -X - (q * -sa' + p * -sb') = -(s3 * X - (p * sb' + q * sa')) := by grind
  rw [e]
  unfold Nr at *
  constructor <;> grind
 have := sharp_rat Np s0 c' q0 q1 p0 p1 (sa := -sa') (sb := -sb') (by unfold Nr at ga; grind) (by unfold Nr at gb; grind)
 grind
theorem sharp {l lo hi y x : Int} (A : At l y x) (hl : lo ≤ l) (hh : l + 3 ≤ hi) (hw : hi - lo ≤ 200000000) (big : 560000000 ≤ y ∨ y ≤ -560000000 ∨ 560000000 ≤ x ∨ x ≤ -560000000) : 9 / 10 ≤ cr (lo * 1000000) y x ∧ cr (hi * 1000000) y x ≤ -(9 / 10) := by
 obtain ⟨N, b, n1, n2, n3, n4, n0, hN⟩ := A
 have N5 : (560000000 : Rat) ≤ (N : Rat) := by
  have := cle (show 560000000 ≤ N by omega)
  push_cast at this
  exact this
 have Np : (0 : Rat) < (N : Rat) := by grind
 have e1 := neg_le_cast n1
 have e2 := cle n2
 have e3 := neg_le_cast n3
 have e4 := cle n4
 have m0 : 0 ≤ 190 / 100000000000 * (N : Rat) := Rat.mul_nonneg (by decide +kernel) (by grind)
 have p0 := b.2.1
 have q0 : 190 / 100000000000 * (N : Rat) ≤ -cr ((l + 3) * 1000000) (y : Rat) (x : Rat) := ng b.2.2
 obtain ⟨s1, s2⟩ := sides_small (by grind) e1 e2 e3 e4 (Rat.le_trans m0 p0) (Rat.le_trans m0 q0)
 obtain ⟨c1, _⟩ := cone l (lo * 1000000) e1 e2 e3 e4
 obtain ⟨c2, _⟩ := cone l (hi * 1000000) e1 e2 e3 e4
 have t0 := S_three.1
 have a1 := S_mono (a := 3 * 1000000) (b := (l + 3) * 1000000 - lo * 1000000) (by omega) (by omega) (by omega)
 have a2 := S_mono (a := 0) (b := l * 1000000 - lo * 1000000) (by omega) (by omega) (by omega)
 have a3 := S_mono (a := 3 * 1000000) (b := hi * 1000000 - l * 1000000) (by omega) (by omega) (by omega)
 have a4 := S_mono (a := 0) (b := hi * 1000000 - (l + 3) * 1000000) (by omega) (by omega) (by omega)
 rw [S_zero] at a2 a4
 have f1 := sharp_rat Np t0 c1 p0 s1 (Rat.le_trans m0 q0) s2 (mo a1) (mo a2)
 have g1 := (SC_neg (hi * 1000000 - l * 1000000)).1
 have g2 := (SC_neg (hi * 1000000 - (l + 3) * 1000000)).1
 rw [show -(hi * 1000000 - l * 1000000) = l * 1000000 - hi * 1000000 by omega] at g1
 rw [show -(hi * 1000000 - (l + 3) * 1000000) = (l + 3) * 1000000 - hi * 1000000 by omega] at g2
 have f2 := sharp_rat2 Np t0 c2 (Rat.le_trans m0 p0) s1 q0 s2 g1 g2 a3 a4
 exact ⟨fin1 N5 f1, fin2 N5 f2⟩
theorem big_of {p q : Int} {ρ : Rat} (r0 : 800000000 ≤ ρ) (h : ρ * ρ ≤ (p : Rat) * p + (q : Rat) * q) : 560000000 ≤ p ∨ p ≤ -560000000 ∨ 560000000 ≤ q ∨ q ≤ -560000000 := by
 by_cases c : 560000000 ≤ p ∨ p ≤ -560000000 ∨ 560000000 ≤ q ∨ q ≤ -560000000
 ·exact c
 ·exfalso
  have a1 := cle (show -560000000 ≤ p by omega)
  have a2 := cle (show p ≤ 560000000 by omega)
  have a3 := cle (show -560000000 ≤ q by omega)
  have a4 := cle (show q ≤ 560000000 by omega)
  push_cast at a1 a2 a3 a4
  have k1 := OctT.abs_mul a1 a2 a1 a2
  have k2 := OctT.abs_mul a3 a4 a3 a4
  have k3 := Rat.mul_le_mul_of_nonneg_left r0 (show (0 : Rat) ≤ 800000000 by decide +kernel)
  have k4 := Rat.mul_le_mul_of_nonneg_left r0 (show (0 : Rat) ≤ ρ by grind)
  generalize (p : Rat) * p = a at *
  generalize (q : Rat) * q = b at *
  clear a1 a2 a3 a4 c
  grind
theorem box_sharp {y0 y1 x0 x1 a b c d lo hi : Int} (Aa : At a y0 x0) (Ab : At b y0 x1) (Ac : At c y1 x0) (Ad : At d y1 x1) (E : Go.Proofs.Ytmahlfjnejbcnaa.ArcT.Ends a b c d lo hi) (hw : hi - lo ≤ 200000000) (hy : y0 ≤ y1) (hx : x0 ≤ x1) {ρ : Rat} (r0 : 800000000 ≤ ρ)
  (nm : ∀ p q : Int, y0 ≤ p → p ≤ y1 → x0 ≤ q → q ≤ x1 → ρ * ρ ≤ (p : Rat) * p + (q : Rat) * q) {y x : Rat} (h0 : (y0 : Rat) ≤ y) (h1 : y ≤ (y1 : Rat)) (g0 : (x0 : Rat) ≤ x) (g1 : x ≤ (x1 : Rat)) :
  9 / 10 ≤ cr (lo * 1000000) y x ∧ cr (hi * 1000000) y x ≤ -(9 / 10) := by
 obtain ⟨p1, p2⟩ := sharp Aa E.la E.ha hw (big_of r0 (nm _ _ (by omega) (by omega) (by omega) (by omega)))
 obtain ⟨q1, q2⟩ := sharp Ab E.lb E.hb hw (big_of r0 (nm _ _ (by omega) (by omega) (by omega) (by omega)))
 obtain ⟨r1, r2⟩ := sharp Ac E.lc E.hc hw (big_of r0 (nm _ _ (by omega) (by omega) (by omega) (by omega)))
 obtain ⟨s1, s2⟩ := sharp Ad E.ld E.hd hw (big_of r0 (nm _ _ (by omega) (by omega) (by omega) (by omega)))
 unfold cr at *
 generalize C (lo * 1000000) = Cl at *
 generalize S (lo * 1000000) = Sl at *
 generalize C (hi * 1000000) = Ch at *
 generalize S (hi * 1000000) = Sh at *
 have u1 := aff_min (p := Cl) (q := -Sl) (T := 9 / 10) h0 h1 g0 g1 (by grind) (by grind) (by grind) (by grind)
 have u2 := aff_min (p := -Ch) (q := Sh) (T := 9 / 10) h0 h1 g0 g1 (by grind) (by grind) (by grind) (by grind)
 clear p1 p2 q1 q2 r1 r2 s1 s2 nm
 constructor <;> grind
theorem scale_cr {t : Int} {η ξ Y X : Rat} (nY : Nr (η - 1000000000 * Y) (1 / 100000000)) (nX : Nr (ξ - 1000000000 * X) (1 / 100000000)) : Nr (cr t η ξ - 1000000000 * cr t Y X) (2 / 100000000) := by
 obtain ⟨b1, b2, b3, b4⟩ := SC_bound t
 have k1 := OctT.abs_mul b1 b2 nY.1 nY.2
 have k2 := OctT.abs_mul b3 b4 nX.1 nX.2
 unfold cr
 generalize C t = c at *
 generalize S t = s at *
 have e : c * η - s * ξ - 1000000000 * (c * Y - s * X) = c * (η - 1000000000 * Y) - s * (ξ - 1000000000 * X) := by grind
 rw [e]
 generalize c * (η - 1000000000 * Y) = p at *
 generalize s * (ξ - 1000000000 * X) = q at *
 clear e nY nX
 unfold Nr
 constructor <;> grind
theorem cr_lo {a b : Rat} (h : 9 / 10 ≤ a) (k : Nr (a - 1000000000 * b) (2 / 100000000)) : 5 / 10000000000 ≤ b := by unfold Nr at k; grind
theorem cr_hi {a b : Rat} (h : a ≤ -(9 / 10)) (k : Nr (a - 1000000000 * b) (2 / 100000000)) : b ≤ 0 := by unfold Nr at k; grind
theorem S_1 : 628 / 100000000000 ≤ S (1 * 1000000) :=
 Rat.le_trans (by decide +kernel) (S_big (1 * 1000000) (1000000 * 1099511627776) (by omega) (by omega) (by decide +kernel) (q := 62831 / 10000000000000) (by decide +kernel) (by decide +kernel))
theorem C_1 : 1 - C (1 * 1000000) ≤ 1 / 100000000000 := Rat.le_trans (verse (K := 1) (by omega) (by omega) (q := 7 / 1000000000) (by decide +kernel) (by decide +kernel)) (by decide +kernel)
theorem cos_big {a c : Rat} (h : c * c + a * a = 1) (c0 : -(2 / 1000000000000) ≤ c) (a0 : -(51 / 100) ≤ a) (a1 : a ≤ 51 / 100) : 8 / 10 ≤ c := by
 have k := OctT.abs_mul a0 a1 a0 a1
 rcases Rat.le_total (a := 8 / 10) (b := c) with m | m
 ·exact m
 ·exfalso
  have k2 := OctT.abs_mul (a := c) (b := c) (A := 8 / 10) (B := 8 / 10) (by grind) m (by grind) m
  grind
theorem up_rat {a b c c1 s1 : Rat} (ad : Nr (b - (a * c1 + c * s1)) (1 / 100000000000000000000)) (hc : 8 / 10 ≤ c) (a0 : -1 ≤ a) (a1 : a ≤ 1) (k1 : 1 - c1 ≤ 1 / 100000000000) (k0 : c1 ≤ 1) (hs : 628 / 100000000000 ≤ s1) : a + 49 / 10000000000 ≤ b := by
 unfold Nr at ad
 have m1 := OctT.abs_mul (a := a) (b := 1 - c1) (A := 1) (B := 1 / 100000000000) a0 a1 (by grind) k1
 have m2 := Rat.mul_le_mul_of_nonneg_left hc (show 0 ≤ s1 by grind)
 grind
theorem S_up {l : Int} (h0 : -250000000 ≤ l) (h1 : l ≤ 249999999) (b0 : -(51 / 100) ≤ S (l * 1000000)) (b1 : S (l * 1000000) ≤ 51 / 100) : S (l * 1000000) + 49 / 10000000000 ≤ S ((l + 1) * 1000000) := by
 have ad := (SC_add (l * 1000000) (1 * 1000000)).1
 rw [show l * 1000000 + 1 * 1000000 = (l + 1) * 1000000 by omega] at ad
 have sb := SC_bound (l * 1000000)
 exact up_rat ad (cos_big (SC_sq (l * 1000000)) (Rat.le_trans (by decide +kernel) (C_quarter (a := l) (by omega) (by omega))) b0 b1) sb.2.2.1 sb.2.2.2 C_1 (SC_bound (1 * 1000000)).2.1 S_1
theorem lo_rat {a b x : Rat} (x0 : -500000000 ≤ x) (x1 : x ≤ 500000000) (h : 1000000000 * b ≤ x + 2) (m : a ≤ b + 1 / 100000000000000000) (up : -(51 / 100) ≤ a → a ≤ 51 / 100 → a + 49 / 10000000000 ≤ b) : 1000000000 * a ≤ x - 1 := by
 rcases Rat.le_total (a := 1000000000 * a) (b := x - 1) with n | n
 ·exact n
 ·have := up (by grind) (by grind)
  grind
theorem hi_rat {a b y : Rat} (x0 : -500000000 ≤ y) (x1 : y ≤ 500000000) (h : y ≤ 1000000000 * a + 2) (m : a ≤ b + 1 / 100000000000000000) (up : -(51 / 100) ≤ a → a ≤ 51 / 100 → a + 49 / 10000000000 ≤ b) : y + 1 ≤ 1000000000 * b := by
 rcases Rat.le_total (a := y + 1) (b := 1000000000 * b) with n | n
 ·exact n
 ·have := up (by grind) (by grind)
  grind
theorem f_lo {x Z a : Rat} (h : 1000000000 * a ≤ x - 1) (k : x - 1 / 2 ≤ 1000000000 * Z) : 0 ≤ Z - a := by grind
theorem f_hi {y Z a : Rat} (h : y + 1 ≤ 1000000000 * a) (k : 1000000000 * Z ≤ y + 1 / 2) : Z - a ≤ 0 := by grind
theorem st_rat {Z a b e : Rat} (h : b - a ≤ e) : Z - a - (Z - b) ≤ e := by grind
theorem dec_of {A B z0 z1 : Int} (h : Arcs2 A B z0 z1) (q0 : -500000000 ≤ z0) (q1 : z0 ≤ z1) (q2 : z1 ≤ 500000000) {Z : Rat} (h0 : (z0 : Rat) - 1 / 2 ≤ 1000000000 * Z) (h1 : 1000000000 * Z ≤ (z1 : Rat) + 1 / 2) : ∃ δ, A * 1000000 ≤ δ ∧ δ ≤ B * 1000000 ∧ 0 ≤ Z - S δ ∧ Z - S δ ≤ 65 / 10000000000000000 := by
 obtain ⟨l, l', hA, hB, r1, r2, r3, r4, k1, k2, k3, k4⟩ := h.near (by omega) (by omega)
 have e1 := cle q0
 have e2 := cle (show z0 ≤ 500000000 by omega)
 have e3 := cle (show -500000000 ≤ z1 by omega)
 have e4 := cle q2
 push_cast at e1 e2 e3 e4
 have m1 := S_mono (a := (l - 1) * 1000000) (b := l * 1000000) (by omega) (by omega) (by omega)
 have m2 := S_mono (a := (l' + 3) * 1000000) (b := (l' + 4) * 1000000) (by omega) (by omega) (by omega)
 have u1 := S_up (l := l - 1) (by omega) (by omega)
 have u2 := S_up (l := l' + 3) (by omega) (by omega)
 rw [show l - 1 + 1 = l by omega] at u1
 rw [show l' + 3 + 1 = l' + 4 by omega] at u2
 have a1 := lo_rat e1 e2 k1 m1 u1
 have a2 := hi_rat e3 e4 k4 m2 u2
 rw [hA, hB]
 exact ivt2 (f := fun t => Z - S t) (by decide +kernel) (fun t => st_rat (S_step t).2) (by have := h.le; omega) (f_lo a1 h0) (f_hi a2 h1)
theorem sq_close {c r Z s k : Rat} (h1 : c * c + s * s = 1) (h2 : k * k + r * r = 1 - Z * Z) (z0 : 0 ≤ Z - s) (z1 : Z - s ≤ 65 / 10000000000000000) (Z0 : -(1 / 2) ≤ Z) (Z1 : Z ≤ 1 / 2) (k0 : 0 ≤ k) (k1 : k ≤ 2 / 100000000000000) (c0 : -(2 / 1000000000000) ≤ c) (r0 : 0 ≤ r) : Nr (r - c) (3 / 100000000000000) := by
 have c8 : 8 / 10 ≤ c := cos_big h1 c0 (by grind) (by grind)
 have a := OctT.abs_mul (a := Z - s) (b := Z + s) (A := 65 / 10000000000000000) (B := 2) (by grind) z1 (by grind) (by grind)
 have b := OctT.abs_mul (a := k) (b := k) (A := 2 / 100000000000000) (B := 2 / 100000000000000) (by grind) k1 (by grind) k1
 have e : (r - c) * (r + c) = (s - Z) * (Z + s) - k * k := by grind
 have f := OctT.abs_mul (a := Z + s) (b := s - Z) (A := 11 / 10) (B := 65 / 10000000000000000) (by grind) (by grind) (by grind) (by grind)
 unfold Nr
 constructor
 ·rcases Rat.le_total (a := -(3 / 100000000000000)) (b := r - c) with m | m
  ·exact m
  ·exfalso
   have q := Rat.mul_le_mul_of_nonneg_left m (show 0 ≤ r + c by grind)
   grind
 ·rcases Rat.le_total (a := r - c) (b := 3 / 100000000000000) with m | m
  ·exact m
  ·exfalso
   have q := Rat.mul_le_mul_of_nonneg_left m (show 0 ≤ r + c by grind)
   grind
theorem join_rat {Y s r c : Rat} (h : Nr (Y - s * r) (2 / 100000000000000)) (k : Nr (r - c) (3 / 100000000000000)) (s0 : -1 ≤ s) (s1 : s ≤ 1) : Nr (Y - c * s) (6 / 100000000000000) := by
 have m := OctT.abs_mul s0 s1 k.1 k.2
 unfold Nr at *
 constructor <;> grind
def Is (α δ : Int) (X Y Z : Rat) : Prop := Nr (X - C δ * C α) (6 / 100000000000000) ∧ Nr (Y - C δ * S α) (6 / 100000000000000) ∧ Nr (Z - S δ) (6 / 100000000000000)
theorem is_of {α δ : Int} {X Y Z : Rat} (nn : X * X + Y * Y + Z * Z = 1) (h0 : 0 ≤ cr α Y X) (h1 : cr α Y X ≤ 2 / 100000000000000) (d0 : 0 ≤ dt α Y X) (z0 : 0 ≤ Z - S δ) (z1 : Z - S δ ≤ 65 / 10000000000000000) (Z0 : -(1 / 2) ≤ Z) (Z1 : Z ≤ 1 / 2) (c0 : -(2 / 1000000000000) ≤ C δ) : Is α δ X Y Z := by
 obtain ⟨p1, p2⟩ := parts_of h0 h1
 have ln := len_at α Y X
 have sq := sq_close (SC_sq δ) (k := cr α Y X) (r := dt α Y X) (Z := Z) (by rw [ln]; clear p1 p2 h0 h1 d0 z0 z1 c0 ln; grind) z0 z1 Z0 Z1 h0 h1 c0 d0
 obtain ⟨b1, b2, b3, b4⟩ := SC_bound α
 refine ⟨join_rat p2 sq b1 b2, join_rat p1 sq b3 b4, ?_⟩
 exact ⟨Rat.le_trans (by decide +kernel) z0, Rat.le_trans z1 (by decide +kernel)⟩
theorem is_turn {α α' δ : Int} {X Y Z : Rat} (h : Is α δ X Y Z) (e : α' % 1000000000000000 = α % 1000000000000000) : Is α' δ X Y Z := by
 unfold Is at *
 rw [C_per e, S_per e]
 exact h
theorem C_low2 {a : Int} (h0 : -250000000000000 ≤ a) (h1 : a ≤ 250000000000000) : -(2 / 1000000000000) ≤ C a := by
 have q := C_quarter (a := 250000000) (by omega) (by omega)
 have n := (SC_neg a).2
 unfold Nr at n
 rcases Int.lt_or_le a 0 with c | c
 ·have d := C_dec (a := -a) (b := 250000000 * 1000000) (by omega) (by omega) (by omega)
  generalize C (250000000 * 1000000) = x at *
  generalize C (-a) = y at *
  generalize C a = z at *
  grind
 ·have d := C_dec (a := a) (b := 250000000 * 1000000) (by omega) (by omega) (by omega)
  generalize C (250000000 * 1000000) = x at *
  generalize C a = z at *
  clear n
  grind
def Real (lo hi la lb A0 A1 B0 B1 : Int) : Prop := ∀ t s, lo * 1000000 ≤ t → t ≤ hi * 1000000 → la * 1000000 ≤ s → s ≤ lb * 1000000 → ∃ α δ, A0 * 1000000 ≤ α ∧ α ≤ A1 * 1000000 ∧ B0 * 1000000 ≤ δ ∧ δ ≤ B1 * 1000000 ∧ Is α δ (eX t s) (eY t s) (eZ t s)
theorem half_lo {z Z ζ : Rat} (h : z ≤ ζ) (k : Nr (ζ - 1000000000 * Z) (1 / 100000000)) : z - 1 / 2 ≤ 1000000000 * Z := by unfold Nr at k; grind
theorem half_hi {z Z ζ : Rat} (h : ζ ≤ z) (k : Nr (ζ - 1000000000 * Z) (1 / 100000000)) : 1000000000 * Z ≤ z + 1 / 2 := by unfold Nr at k; grind
theorem z_half {Z ζ a b : Rat} (h : a ≤ ζ) (h' : ζ ≤ b) (k : Nr (ζ - 1000000000 * Z) (1 / 100000000)) (a0 : -499999999 ≤ a) (b0 : b ≤ 499999999) : -(1 / 2) ≤ Z ∧ Z ≤ 1 / 2 := by unfold Nr at k; constructor <;> grind
set_option maxHeartbeats 2000000 in
theorem real_of {y0 y1 x0 x1 z0 z1 lo hi la lb a b c d p q A B : Int} (bx : EqBox y0 y1 x0 x1 z0 z1 lo hi la lb) (A1 : At a y0 x0) (A2 : At b y0 x1) (A3 : At c y1 x0) (A4 : At d y1 x1) (E : Go.Proofs.Ytmahlfjnejbcnaa.ArcT.Ends a b c d p q) (hs : Arcs2 A B z0 z1) (hw : q - p ≤ 200000000) (g0 : -499999999 ≤ z0) (g1 : z1 ≤ 499999999) {ρ : Rat} (r0 : 800000000 ≤ ρ)
  (nm : ∀ p q : Int, y0 ≤ p → p ≤ y1 → x0 ≤ q → q ≤ x1 → ρ * ρ ≤ (p : Rat) * p + (q : Rat) * q) : Real lo hi la lb (p % 1000000000) (q - p / 1000000000 * 1000000000) A B := by
 intro t s t0 t1 s0 s1
 obtain ⟨η, ξ, ζ, ⟨n1, n2⟩, ⟨n3, n4⟩, ⟨n5, n6⟩, nY, nX, nZ⟩ := bx.tell t s t0 t1 s0 s1
 obtain ⟨⟨b1, b2⟩, ⟨b3, b4⟩, ⟨b5, b6⟩⟩ := e_bounds t s
 have e1 := bx.x
 have e2 := bx.y
 have e3 := bx.z
 obtain ⟨k1, k2⟩ := box_sharp A1 A2 A3 A4 E hw (by omega) (by omega) r0 nm n1 n2 n3 n4
 have la := E.la
 have ha := E.ha
 obtain ⟨α, α0, α1, c0, c1, d0⟩ := angle_of (lo := p * 1000000) (hi := q * 1000000) (by omega) (by omega) b3 b4 b1 b2 (cr_lo k1 (scale_cr nY nX)) (cr_hi k2 (scale_cr nY nX))
 obtain ⟨δ, δ0, δ1, f0, f1⟩ := dec_of hs (by omega) (by omega) (by omega) (half_lo n5 nZ) (half_hi n6 nZ)
 have i0 := cle g0
 have i1 := cle g1
 push_cast at i0 i1
 obtain ⟨u0, u1⟩ := z_half n5 n6 nZ i0 i1
 have cq : -(2 / 1000000000000) ≤ C δ := by
  have h0 := hs.a0
  have h1 := hs.b0
  exact C_low2 (by omega) (by omega)
 refine ⟨α - p / 1000000000 * 1000000000000000, δ, by omega, by omega, δ0, δ1, is_turn (α := α) (is_of (e_norm t s) c0 c1 d0 f0 f1 u0 u1 cq) (by omega)⟩
theorem cp_id {z : Int} (h0 : -1000000000 ≤ z) (h1 : z ≤ 1000000000) : cp z = z := by unfold cp mx mn; split <;> split <;> omega
theorem neg_mid {a b : Rat} (h : -a ≤ b) (k : a ≤ 499999999) : ((-499999999 : Int) : Rat) ≤ b := by push_cast; grind
theorem pos_mid {a b : Rat} (h : b ≤ a) (k : a ≤ 499999999) : b ≤ ((499999999 : Int) : Rat) := by push_cast; grind
theorem eq_real {lo hi la lb : Int} (h1 : sp lo hi = 0) (h2 : sp la lb = 0) (l0 : -125000000 ≤ la) (l1 : lb ≤ 125000000) (hw : hi - lo ≤ 1000000000) {D wy wx K : Int} (hy : 22 + 7 * (hi - lo) + 14 * (lb - la) ≤ wy) (hx : 8 + 7 * (hi - lo) + 7 * (lb - la) ≤ wx) (hD : wy + wx ≤ D) (D2 : D ≤ 2000000)
  {zm ρ W κ : Rat} (zm0 : 0 ≤ zm) (hz : -zm ≤ eZ (lo * 1000000) (la * 1000000) ∧ eZ (lo * 1000000) (la * 1000000) ≤ zm) (hρ : ρ * ρ + 2000000002 * (D : Rat) + 100 ≤ 1000000000000000000 * (1 - zm * zm)) (r0 : 800000000 ≤ ρ) (zm5 : 1000000000 * zm + (wy : Rat) + 1 ≤ 499999999) (W0 : 0 ≤ W) (hW : (wy : Rat) * (wy : Rat) + (wx : Rat) * (wx : Rat) ≤ W * W)
  (k0 : 0 ≤ κ) (kS : κ + 1 / 100000000000000000 ≤ S (K * 1000000)) (hK : 0 ≤ K) (hK2 : K ≤ 100000000) (g1 : W + 110 < κ * (ρ - 1)) (g2 : 32 / 100 * 1010000000 + W + 110 < ρ) :
  ∃ A0 A1 B0 B1 z0 z1 : Int, Ev (fun k => sun_Equator.f k lo hi la lb) (A0, A1, B0, B1, 0) ∧ A1 - A0 ≤ K + 6 ∧ Arcs2 B0 B1 (cp z0) (cp z1) ∧ z0 ≤ z1 ∧ z1 - z0 ≤ wy ∧ (-(1000000000 * zm + (wy : Rat) + 1) ≤ (z0 : Rat) ∧ (z1 : Rat) ≤ 1000000000 * zm + (wy : Rat) + 1) ∧ A0 ≤ A1 ∧ 0 ≤ A0 ∧ A0 < 1000000000 ∧ Real lo hi la lb A0 A1 B0 B1 := by
 obtain ⟨p1, p2, p3⟩ := sp_zero h1
 obtain ⟨q1, q2, q3⟩ := sp_zero h2
 obtain ⟨y0, y1, x0, x1, z0, z1, bx, f1, f2⟩ := eq_core h1 h2 l0 l1
 have wY := bx.wy hw
 have wX := bx.wx hw
 have wZ := bx.wz hw
 have yy := bx.y
 have xx := bx.x
 have zz := bx.z
 have yb := bx.yb
 have nm := norm_of bx p2 q2 (D := D) (by omega) D2 zm0 hz hρ
 have nz : ¬ (y0 ≤ 0 ∧ 0 ≤ y1 ∧ x0 ≤ 0 ∧ 0 ≤ x1) := by
  rintro ⟨a, b, c, d⟩
  have h := (nm 0 0 a b c d).1
  have k := OctT.abs_mul (a := ρ) (b := ρ) (A := ρ) (B := ρ) (by grind) (by grind) (by grind) (by grind)
  have k2 := Rat.mul_le_mul_of_nonneg_left r0 (show (0 : Rat) ≤ 800000000 by decide +kernel)
  have k3 := Rat.mul_le_mul_of_nonneg_left r0 (show 0 ≤ ρ by grind)
  push_cast at h
  clear nm bx f1 f2
  grind
 obtain ⟨a, b, c, d, p, q, A, B, A1, A2, A3, A4, E, b1, c1, d1, hs, _, ok⟩ := f2 nz
 have W1 : ((y1 - y0 : Int) : Rat) * ((y1 - y0 : Int) : Rat) + ((x1 - x0 : Int) : Rat) * ((x1 - x0 : Int) : Rat) ≤ W * W := by
  refine Rat.le_trans (sq_add ?_ ?_ ?_ ?_) hW
  ·have := cle (show -wy ≤ y1 - y0 by omega); push_cast at this ⊢; exact this
  ·exact cle (show y1 - y0 ≤ wy by omega)
  ·have := cle (show -wx ≤ x1 - x0 by omega); push_cast at this ⊢; exact this
  ·exact cle (show x1 - x0 ≤ wx by omega)
 have nar := arc_narrow A1 A2 A3 A4 E b1 c1 d1 (by omega) (by omega) (by omega) (by omega) (by omega) (by omega) W0 W1 (Rat.le_trans (by decide +kernel) r0) (by decide +kernel : (0 : Rat) ≤ 1010000000) (by decide +kernel) nm k0 kS hK (by omega) g1 g2
 have e1 := E.la
 have e2 := E.ha
 have zr : -(1000000000 * zm + (wy : Rat) + 1) ≤ (z0 : Rat) ∧ (z1 : Rat) ≤ 1000000000 * zm + (wy : Rat) + 1 := by
  obtain ⟨η, ξ, ζ, _, _, ⟨n5, n6⟩, _, _, nZ⟩ := bx.tell (lo * 1000000) (la * 1000000) (by omega) (by omega) (by omega) (by omega)
  have w1 := cle (show z1 - z0 ≤ wy by omega)
  push_cast at w1
  have w2 := cle (show z0 ≤ z1 by omega)
  exact ⟨(z_rat (w := (wy : Rat)) nZ hz.1 hz.2 (by clear nZ bx nm; grind) (by clear nZ bx nm; grind)).1, (z_rat (w := (wy : Rat)) nZ hz.1 hz.2 (by clear nZ bx nm; grind) (by clear nZ bx nm; grind)).2⟩
 refine ⟨_, _, A, B, z0, z1, ok (by omega), by omega, hs, by omega, by omega, zr, by omega, by omega, by omega, ?_⟩
 ·have i0 : -499999999 ≤ z0 := int_of_rat (neg_mid zr.1 zm5)
  have i1 : z1 ≤ 499999999 := int_of_rat (pos_mid zr.2 zm5)
  rw [cp_id (by omega) (by omega), cp_id (by omega) (by omega)] at hs
  exact real_of bx A1 A2 A3 A4 E hs (by omega) i0 i1 r0 (fun p q a b c d => (nm p q a b c d).1)
end Go.Proofs.Ytmahlfjnejbcnaa.SkyV
