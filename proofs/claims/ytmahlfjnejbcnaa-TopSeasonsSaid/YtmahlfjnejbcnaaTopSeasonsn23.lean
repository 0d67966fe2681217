/- octant against the rotation: sine and cosine, each within 84 units. -/
import Derived.Test.YtmahlfjnejbcnaaTopSeasonsn22
namespace Go.Proofs.Ytmahlfjnejbcnaa.OctT
open Go.RowKit YtmahlfjnejbcnaaW.PrintWords YtmahlfjnejbcnaaW.PrintLast Opn PAll Base Turn Fix Oct
set_option linter.unusedVariables false
set_option linter.unusedSimpArgs false
def u : Rat := 1152921504606846976
theorem u_eq : u = 1152921504606846976 := rfl
theorem cle {a b : Int} (h : a ≤ b) : (a : Rat) ≤ (b : Rat) := by exact_mod_cast h
theorem clt {a b : Int} (h : a < b) : (a : Rat) < (b : Rat) := by exact_mod_cast h
theorem div_bound {D d z b : Rat} (h1 : d ≤ D) (h0 : 0 ≤ d) (hb : 0 ≤ b) (h : D * z ≤ b) : d * z ≤ b := by
 rcases (Rat.le_total : 0 ≤ z ∨ z ≤ 0) with hz | hz
 ·have := Rat.mul_le_mul_of_nonneg_left h1 hz
  grind
 ·have := Rat.mul_le_mul_of_nonneg_left hz h0
  grind
theorem abs_mul {a b A B : Rat} (h1 : -A ≤ a) (h2 : a ≤ A) (h3 : -B ≤ b) (h4 : b ≤ B) : -(A * B) ≤ a * b ∧ a * b ≤ A * B := by
 have k1 := Rat.mul_nonneg (show 0 ≤ A - a by grind) (show 0 ≤ B - b by grind)
 have k2 := Rat.mul_nonneg (show 0 ≤ A + a by grind) (show 0 ≤ B + b by grind)
 have k3 := Rat.mul_nonneg (show 0 ≤ A - a by grind) (show 0 ≤ B + b by grind)
 have k4 := Rat.mul_nonneg (show 0 ≤ A + a by grind) (show 0 ≤ B - b by grind)
 constructor <;> grind
theorem prod_err {F y2 s sq m E : Rat} (hF0 : 0 ≤ F) (hF1 : F ≤ 1) (hy0 : 0 ≤ y2) (hy1 : y2 ≤ 7 / 10) (hE0 : 0 ≤ E) (hE : E ≤ 8) (hs1 : -E ≤ s - u * F) (hs2 : s - u * F ≤ E) (hq1 : -8 ≤ sq - u * y2) (hq2 : sq - u * y2 ≤ 8)
  (hm1 : m * u ≤ s * sq) (hm2 : s * sq < (m + 2) * u) : -(10 + 7 / 10 * E + 1 / 10) ≤ m - u * (F * y2) ∧ m - u * (F * y2) ≤ 8 + 7 / 10 * E + 1 / 10 := by
 obtain ⟨a1, a2⟩ := abs_mul (a := s - u * F) (b := sq - u * y2) (A := E) (B := 8) (by grind) hs2 (by grind) hq2
 obtain ⟨b1, b2⟩ := abs_mul (a := s - u * F) (b := y2) (A := E) (B := 7 / 10) (by grind) hs2 (by grind) hy1
 obtain ⟨c1, c2⟩ := abs_mul (a := F) (b := sq - u * y2) (A := 1) (B := 8) (by grind) hF1 (by grind) hq2
 have e : s * sq = u * (u * (F * y2) + F * (sq - u * y2) + (s - u * F) * y2) + (s - u * F) * (sq - u * y2) := by grind
 rw [e] at hm1 hm2
 generalize F * y2 = w at *
 generalize F * (sq - u * y2) = p at *
 generalize (s - u * F) * y2 = q at *
 generalize (s - u * F) * (sq - u * y2) = r at *
 have hu := u_eq
 clear e hs1 hs2 hq1 hq2
 constructor
 ·-- m + 2 > w u + p + q + r / u
  have k : u * (u * w + p + q - m - 2) ≤ 64 := by grind
  have := div_bound (d := 1000) (D := u) (z := u * w + p + q - m - 2) (b := 64) (by rw [hu]; grind) (by grind) (by grind) k
  grind
 ·have k : u * (m - u * w - p - q) ≤ 64 := by grind
  have := div_bound (d := 1000) (D := u) (z := m - u * w - p - q) (b := 64) (by rw [hu]; grind) (by grind) (by grind) k
  grind
theorem quot_err {F F' y2 m q D d E : Rat} (hD : d ≤ D) (hd : 1 ≤ d) (hF : D * F' = F * y2) (h1 : -(10 + 7 / 10 * E + 1 / 10) ≤ m - u * (F * y2)) (h2 : m - u * (F * y2) ≤ 8 + 7 / 10 * E + 1 / 10) (hE0 : 0 ≤ E) (hq1 : q * D ≤ m) (hq2 : m < q * D + D) :
  d * (q - u * F') ≤ 9 + 7 / 10 * E ∧ -(11 + 7 / 10 * E + d) ≤ d * (q - u * F') := by
 have e : D * (q - u * F') = q * D - u * (F * y2) := by rw [← hF]; grind
 generalize u * (F * y2) = W at *
 generalize q - u * F' = z at *
 constructor
 ·exact div_bound hD (by grind) (by grind) (by grind)
 ·have := div_bound (d := d) (D := D) (z := -z - 1) (b := 11 + 7 / 10 * E) hD (by grind) (by grind) (by grind)
  grind
theorem F_two (y : Rat) (i : Nat) : (((i : Rat) + 1) * ((i : Rat) + 2)) * F y (i + 2) = F y i * (y * y) := by
 have e : F y (i + 2) = F y i * y * g i * y * g (i + 1) := rfl
 have h1 := g_mul i
 have h2 := g_mul (i + 1)
 have hc : ((i + 1 : Nat) : Rat) = (i : Rat) + 1 := by push_cast; rfl
 rw [hc] at h2
 rw [e]
 generalize g i = a at *
 generalize g (i + 1) = b at *
 generalize F y i = f at *
 generalize (i : Rat) = r at *
 have h3 : (r + 1 + 1) * b = 1 := h2
 have : (r + 1) * (r + 2) * (f * y * a * y * b) = f * (y * y) * ((r + 1) * a) * ((r + 1 + 1) * b) := by grind
 rw [this, h1, h3]; grind
def st (a : Int) : Nat := a.toNat * 1099511627776000000
def yy (a : Int) : Rat := s1 * (st a : Rat)
theorem yy_eq {a : Int} (h0 : 0 ≤ a) : yy a = s1 * 1099511627776000000 * (a : Rat) := by
 unfold yy st
 have e : ((a.toNat * 1099511627776000000 : Nat) : Rat) = (a : Rat) * 1099511627776000000 := by
  have h : ((a.toNat : Int) : Rat) = (a : Rat) := by rw [Int.toNat_of_nonneg h0]
  push_cast
  have h2 : ((a.toNat : Nat) : Rat) = (a : Rat) := by rw [← h]; rfl
  rw [h2]
 rw [e]; grind
theorem kappa : u * (s1 * 1099511627776000000) - 7244019458077122842 / 1000000000 ≤ 1 / 1000000000 ∧ -(1 / 1000000000) ≤ u * (s1 * 1099511627776000000) - 7244019458077122842 / 1000000000 := by decide +kernel
theorem yy_bound {a : Int} (h0 : 0 ≤ a) (h1 : a ≤ 125000000) : 0 ≤ yy a ∧ yy a ≤ 786 / 1000 := by
 have ha := cle h0
 have hb := cle h1
 have k1 : s1 * 1099511627776000000 ≤ 6284 / 1000000000000 := by decide +kernel
 have k2 : 0 ≤ s1 * 1099511627776000000 := by decide +kernel
 rw [yy_eq h0]
 generalize s1 * 1099511627776000000 = c at *
 push_cast at ha hb
 generalize (a : Rat) = r at *
 have m1 := Rat.mul_nonneg k2 ha
 have m2 := Rat.mul_le_mul_of_nonneg_left hb k2
 constructor <;> grind
theorem oX_err {a : Int} (h0 : 0 ≤ a) (h1 : a ≤ 125000000) : -2 ≤ (oX a : Rat) - u * yy a ∧ (oX a : Rat) - u * yy a ≤ 2 := by
 obtain ⟨k1, k2⟩ := kappa
 have e := yy_eq h0
 have ha := cle h0
 have hb := cle h1
 have x1 : oX a * 1000000000 ≤ a * 7244019458077122842 := by unfold oX; omega
 have x2 : a * 7244019458077122842 < oX a * 1000000000 + 1000000000 := by unfold oX; omega
 have x1 := cle x1
 have x2 := clt x2
 push_cast at x1 x2 ha hb
 rw [e]
 generalize s1 * 1099511627776000000 = c at *
 generalize (oX a : Rat) = X at *
 generalize (a : Rat) = r at *
 have m1 := Rat.mul_le_mul_of_nonneg_left k1 ha
 have m2 := Rat.mul_le_mul_of_nonneg_left k2 ha
 constructor <;> grind
theorem sq_err {a : Int} (h0 : 0 ≤ a) (h1 : a ≤ 125000000) : -8 ≤ (fm (oX a) (oX a) : Rat) - u * (yy a * yy a) ∧ (fm (oX a) (oX a) : Rat) - u * (yy a * yy a) ≤ 8 := by
 obtain ⟨x0, x1⟩ := oX_bound h0 h1
 obtain ⟨e1, e2⟩ := oX_err h0 h1
 obtain ⟨y0, y1⟩ := yy_bound h0 h1
 obtain ⟨_, f1, f2⟩ := fm_tells x0 x0
 have f1 := cle f1
 have f2 := clt f2
 push_cast at f1 f2
 generalize (fm (oX a) (oX a) : Rat) = m at *
 generalize (oX a : Rat) = X at *
 generalize yy a = y at *
 obtain ⟨a1, a2⟩ := abs_mul (a := X - u * y) (b := X - u * y) (A := 2) (B := 2) (by grind) e2 (by grind) e2
 obtain ⟨b1, b2⟩ := abs_mul (a := X - u * y) (b := y) (A := 2) (B := 1) (by grind) e2 (by grind) (by grind)
 have e : X * X = u * (u * (y * y) + 2 * ((X - u * y) * y)) + (X - u * y) * (X - u * y) := by grind
 have hu := u_eq
 rw [e, ← hu] at f1 f2
 generalize y * y = w at *
 generalize (X - u * y) * y = p at *
 generalize (X - u * y) * (X - u * y) = r at *
 clear e e1 e2
 constructor
 ·have k : u * (u * w + 2 * p - m - 2) ≤ 4 := by grind
  have := div_bound (d := 1000) (D := u) (z := u * w + 2 * p - m - 2) (b := 4) (by rw [hu]; grind) (by grind) (by grind) k
  grind
 ·have k : u * (m - u * w - 2 * p) ≤ 4 := by grind
  have := div_bound (d := 1000) (D := u) (z := m - u * w - 2 * p) (b := 4) (by rw [hu]; grind) (by grind) (by grind) k
  grind
def sgn (k : Nat) : Rat := if k % 2 = 1 then -1 else 1
theorem ca_two : ∀ k : Nat, ca (2 * k) = (sgn k, 0) ∧ ca (2 * k + 1) = (0, sgn k)
 | 0 => by
  have : sgn 0 = 1 := rfl
  rw [this]
  constructor
  ·rfl
  ·show (-(0 : Rat), (1 : Rat)) = (0, 1)
   rw [show -(0 : Rat) = 0 by grind]
 | k + 1 => by
  obtain ⟨h1, h2⟩ := ca_two k
  have hs : sgn (k + 1) = -sgn k := by
   unfold sgn
   rcases Nat.mod_two_eq_zero_or_one k with h | h
   ·rw [if_pos (show (k + 1) % 2 = 1 by omega), if_neg (show ¬ k % 2 = 1 by omega)]
   ·rw [if_neg (show ¬ (k + 1) % 2 = 1 by omega), if_pos h]; grind
  have e1 : ca (2 * (k + 1)) = (-(ca (2 * k + 1)).2, (ca (2 * k + 1)).1) := rfl
  have e2 : ca (2 * (k + 1) + 1) = (-(ca (2 * (k + 1))).2, (ca (2 * (k + 1))).1) := rfl
  rw [h2] at e1
  rw [e1] at e2
  constructor
  ·rw [e1, hs]
  ·rw [e2, hs]; show (-(0 : Rat), -sgn k) = (0, -sgn k); rw [show -(0 : Rat) = 0 by grind]
section
variable {a : Int} (h0 : 0 ≤ a) (h1 : a ≤ 125000000)
include h0 h1
theorem oS_err : ∀ k : Nat, -8 ≤ (oS (oX a) (fm (oX a) (oX a)) k : Rat) - u * F (yy a) (2 * k + 1) ∧ (oS (oX a) (fm (oX a) (oX a)) k : Rat) - u * F (yy a) (2 * k + 1) ≤ 8
 | 0 => by
  obtain ⟨e1, e2⟩ := oX_err h0 h1
  have e : F (yy a) (2 * 0 + 1) = yy a := by
   have hg : g 0 = 1 := by have := g_mul 0; grind
   show 1 * yy a * g 0 = yy a
   rw [hg]; grind
  rw [e]
  show -8 ≤ (oX a : Rat) - u * yy a ∧ (oX a : Rat) - u * yy a ≤ 8
  constructor <;> grind
 | k + 1 => by
  obtain ⟨e1, e2⟩ := oS_err k
  obtain ⟨x0, x1⟩ := oX_bound h0 h1
  obtain ⟨y0, y1⟩ := yy_bound h0 h1
  obtain ⟨q1, q2⟩ := sq_err h0 h1
  have hq := (fm_tells x0 x0).1
  have hq2 := fm_le x0 x0 x1
  obtain ⟨s1, s2, _, _⟩ := oS_bound x0 hq (Int.le_trans hq2 x1) k
  obtain ⟨m0, m1, m2⟩ := fm_tells s1 hq
  obtain ⟨D1, _⟩ := den_pos k
  have hy2 : yy a * yy a ≤ 7 / 10 := by
   have := Rat.mul_le_mul_of_nonneg_left y1 y0
   grind
  have hy20 := Rat.mul_nonneg y0 y0
  have m1' := cle m1
  have m2' := clt m2
  push_cast at m1' m2'
  rw [← u_eq] at m1' m2'
  obtain ⟨p1, p2⟩ := prod_err (F_nonneg y0 (2 * k + 1)) (F_le y0 (by grind) (2 * k + 1)) hy20 hy2 (by grind) (by grind) e1 e2 q1 q2 m1' m2'
  have d1 : ((2 * ((k : Int) + 1)) * (2 * ((k : Int) + 1) + 1)) * (fm (oS (oX a) (fm (oX a) (oX a)) k) (fm (oX a) (oX a)) / ((2 * ((k : Int) + 1)) * (2 * ((k : Int) + 1) + 1))) ≤ fm (oS (oX a) (fm (oX a) (oX a)) k) (fm (oX a) (oX a)) := Int.mul_ediv_self_le (by omega)
  have d2 : fm (oS (oX a) (fm (oX a) (oX a)) k) (fm (oX a) (oX a)) < ((2 * ((k : Int) + 1)) * (2 * ((k : Int) + 1) + 1)) * (fm (oS (oX a) (fm (oX a) (oX a)) k) (fm (oX a) (oX a)) / ((2 * ((k : Int) + 1)) * (2 * ((k : Int) + 1) + 1))) + ((2 * ((k : Int) + 1)) * (2 * ((k : Int) + 1) + 1)) := Int.lt_mul_ediv_self_add (by omega)
  have d1' := cle d1
  have d2' := clt d2
  have hk : (0 : Rat) ≤ (k : Rat) := by exact_mod_cast Nat.zero_le k
  have hft := F_two (yy a) (2 * k + 1)
  have hdef : oS (oX a) (fm (oX a) (oX a)) (k + 1) = fm (oS (oX a) (fm (oX a) (oX a)) k) (fm (oX a) (oX a)) / ((2 * ((k : Int) + 1)) * (2 * ((k : Int) + 1) + 1)) := rfl
  rw [← hdef] at d1' d2'
  push_cast at d1' d2' hft
  rw [show 2 * (k + 1) + 1 = 2 * k + 1 + 2 by omega]
  generalize (oS (oX a) (fm (oX a) (oX a)) (k + 1) : Rat) = q at *
  generalize (fm (oS (oX a) (fm (oX a) (oX a)) k) (fm (oX a) (oX a)) : Rat) = m at *
  generalize F (yy a) (2 * k + 1 + 2) = F2 at *
  generalize F (yy a) (2 * k + 1) = F1 at *
  generalize yy a * yy a = w at *
  have hkk : (k : Rat) * (k : Rat) ≥ 0 := Rat.mul_nonneg hk hk
  generalize (k : Rat) = K at *
  have hD : (6 : Rat) ≤ 2 * (K + 1) * (2 * (K + 1) + 1) := by grind
  obtain ⟨r1, r2⟩ := quot_err (F := F1) (F' := F2) (y2 := w) (m := m) (q := q) (D := 2 * (K + 1) * (2 * (K + 1) + 1)) (d := 6) (E := 8) hD (by grind) (by grind) p1 p2 (by grind) (by grind) (by grind)
  constructor <;> grind
theorem oC_err : ∀ k : Nat, -8 ≤ (oC (fm (oX a) (oX a)) k : Rat) - u * F (yy a) (2 * k) ∧ (oC (fm (oX a) (oX a)) k : Rat) - u * F (yy a) (2 * k) ≤ 8
 | 0 => by
  have e : F (yy a) (2 * 0) = 1 := rfl
  have e2 : (oC (fm (oX a) (oX a)) 0 : Rat) = u := by rw [u_eq]; show ((1152921504606846976 : Int) : Rat) = _; push_cast; rfl
  rw [e, e2]
  constructor <;> grind
 | k + 1 => by
  obtain ⟨e1, e2⟩ := oC_err k
  obtain ⟨x0, x1⟩ := oX_bound h0 h1
  obtain ⟨y0, y1⟩ := yy_bound h0 h1
  obtain ⟨q1, q2⟩ := sq_err h0 h1
  have hq := (fm_tells x0 x0).1
  have hq2 := fm_le x0 x0 x1
  obtain ⟨s1, s2, _, _⟩ := oC_bound hq (Int.le_trans hq2 x1) k
  obtain ⟨m0, m1, m2⟩ := fm_tells s1 hq
  obtain ⟨_, D1⟩ := den_pos k
  have hy2 : yy a * yy a ≤ 7 / 10 := by
   have := Rat.mul_le_mul_of_nonneg_left y1 y0
   grind
  have hy20 := Rat.mul_nonneg y0 y0
  have m1' := cle m1
  have m2' := clt m2
  push_cast at m1' m2'
  rw [← u_eq] at m1' m2'
  have hE : ∃ E : Rat, 0 ≤ E ∧ E ≤ 8 ∧ -E ≤ (oC (fm (oX a) (oX a)) k : Rat) - u * F (yy a) (2 * k) ∧ (oC (fm (oX a) (oX a)) k : Rat) - u * F (yy a) (2 * k) ≤ E ∧ (k = 0 ∧ E = 0 ∨ 1 ≤ k ∧ E = 8) := by
   rcases Nat.eq_zero_or_pos k with hk | hk
   ·subst hk
    refine ⟨0, by grind, by grind, ?_, ?_, Or.inl ⟨rfl, rfl⟩⟩
    ·have e : F (yy a) (2 * 0) = 1 := rfl
     have e2 : (oC (fm (oX a) (oX a)) 0 : Rat) = u := by rw [u_eq]; show ((1152921504606846976 : Int) : Rat) = _; push_cast; rfl
     rw [e, e2]; grind
    ·have e : F (yy a) (2 * 0) = 1 := rfl
     have e2 : (oC (fm (oX a) (oX a)) 0 : Rat) = u := by rw [u_eq]; show ((1152921504606846976 : Int) : Rat) = _; push_cast; rfl
     rw [e, e2]; grind
   ·exact ⟨8, by grind, by grind, e1, e2, Or.inr ⟨hk, rfl⟩⟩
  obtain ⟨E, E0, E8, g1, g2, hcase⟩ := hE
  obtain ⟨p1, p2⟩ := prod_err (F_nonneg y0 (2 * k)) (F_le y0 (by grind) (2 * k)) hy20 hy2 E0 E8 g1 g2 q1 q2 m1' m2'
  have d1 : ((2 * ((k : Int) + 1) - 1) * 2 * ((k : Int) + 1)) * (fm (oC (fm (oX a) (oX a)) k) (fm (oX a) (oX a)) / ((2 * ((k : Int) + 1) - 1) * 2 * ((k : Int) + 1))) ≤ fm (oC (fm (oX a) (oX a)) k) (fm (oX a) (oX a)) := Int.mul_ediv_self_le (by omega)
  have d2 : fm (oC (fm (oX a) (oX a)) k) (fm (oX a) (oX a)) < ((2 * ((k : Int) + 1) - 1) * 2 * ((k : Int) + 1)) * (fm (oC (fm (oX a) (oX a)) k) (fm (oX a) (oX a)) / ((2 * ((k : Int) + 1) - 1) * 2 * ((k : Int) + 1))) + ((2 * ((k : Int) + 1) - 1) * 2 * ((k : Int) + 1)) := Int.lt_mul_ediv_self_add (by omega)
  have d1' := cle d1
  have d2' := clt d2
  have hk : (0 : Rat) ≤ (k : Rat) := by exact_mod_cast Nat.zero_le k
  have hft := F_two (yy a) (2 * k)
  have hdef : oC (fm (oX a) (oX a)) (k + 1) = fm (oC (fm (oX a) (oX a)) k) (fm (oX a) (oX a)) / ((2 * ((k : Int) + 1) - 1) * 2 * ((k : Int) + 1)) := rfl
  rw [← hdef] at d1' d2'
  push_cast at d1' d2' hft
  rw [show 2 * (k + 1) = 2 * k + 2 by omega]
  have hcase' : ((k : Rat) = 0 ∧ E = 0 ∨ 1 ≤ (k : Rat) ∧ E = 8) := by
   rcases hcase with ⟨hk0, hE0⟩ | ⟨hk1, hE8⟩
   ·left; exact ⟨by rw [hk0]; rfl, hE0⟩
   ·right; exact ⟨by exact_mod_cast hk1, hE8⟩
  clear e1 e2 g1 g2 hcase s1 s2 m0 m1 m2 d1 d2 hdef
  generalize (oC (fm (oX a) (oX a)) (k + 1) : Rat) = q at *
  generalize (fm (oC (fm (oX a) (oX a)) k) (fm (oX a) (oX a)) : Rat) = m at *
  generalize F (yy a) (2 * k + 2) = F2 at *
  generalize F (yy a) (2 * k) = F1 at *
  generalize yy a * yy a = w at *
  have hkk : (k : Rat) * (k : Rat) ≥ 0 := Rat.mul_nonneg hk hk
  generalize (k : Rat) = K at *
  rcases hcase' with ⟨hK, rfl⟩ | ⟨hK, rfl⟩
  ·obtain ⟨r1, r2⟩ := quot_err (F := F1) (F' := F2) (y2 := w) (m := m) (q := q) (D := (2 * (K + 1) - 1) * 2 * (K + 1)) (d := 2) (E := 0) (by rw [hK]; grind) (by grind) (by grind) p1 p2 (by grind) (by grind) (by grind)
   constructor <;> grind
  ·have hKK := Rat.mul_le_mul_of_nonneg_left hK hk
   obtain ⟨r1, r2⟩ := quot_err (F := F1) (F' := F2) (y2 := w) (m := m) (q := q) (D := (2 * (K + 1) - 1) * 2 * (K + 1)) (d := 6) (E := 8) (by grind) (by grind) (by grind) p1 p2 (by grind) (by grind) (by grind)
   constructor <;> grind
theorem oSin_err : ∀ k : Nat, -(8 * ((k : Rat) + 1)) ≤ (oSin (oX a) (fm (oX a) (oX a)) k : Rat) - u * sinP (yy a) (2 * k + 2) ∧ (oSin (oX a) (fm (oX a) (oX a)) k : Rat) - u * sinP (yy a) (2 * k + 2) ≤ 8 * ((k : Rat) + 1)
 | 0 => by
  obtain ⟨e1, e2⟩ := oS_err h0 h1 0
  have e : sinP (yy a) (2 * 0 + 2) = F (yy a) (2 * 0 + 1) := by
   show 0 + (ca 0).2 * F (yy a) 0 + (ca 1).2 * F (yy a) 1 = F (yy a) 1
   simp only [ca]; grind
  rw [e]
  have : oSin (oX a) (fm (oX a) (oX a)) 0 = oS (oX a) (fm (oX a) (oX a)) 0 := rfl
  rw [this]
  have hz : ((0 : Nat) : Rat) = 0 := rfl
  rw [hz]
  constructor <;> grind
 | k + 1 => by
  obtain ⟨e1, e2⟩ := oSin_err k
  obtain ⟨e3, e4⟩ := oS_err h0 h1 (k + 1)
  have es : sinP (yy a) (2 * (k + 1) + 2) = sinP (yy a) (2 * k + 2) + (ca (2 * (k + 1))).2 * F (yy a) (2 * (k + 1)) + (ca (2 * (k + 1) + 1)).2 * F (yy a) (2 * (k + 1) + 1) := rfl
  rw [(ca_two (k + 1)).1, (ca_two (k + 1)).2] at es
  simp only at es
  rw [es]
  have hd : oSin (oX a) (fm (oX a) (oX a)) (k + 1) = if (k + 1) % 2 = 1 then oSin (oX a) (fm (oX a) (oX a)) k - oS (oX a) (fm (oX a) (oX a)) (k + 1) else oSin (oX a) (fm (oX a) (oX a)) k + oS (oX a) (fm (oX a) (oX a)) (k + 1) := rfl
  rw [hd]
  have hc : ((k + 1 : Nat) : Rat) = (k : Rat) + 1 := by push_cast; rfl
  rw [hc]
  unfold sgn
  by_cases c : (k + 1) % 2 = 1
  ·rw [if_pos c, if_pos c]
   push_cast
   constructor <;> grind
  ·rw [if_neg c, if_neg c]
   push_cast
   constructor <;> grind
theorem oCos_err : ∀ k : Nat, -(8 * ((k : Rat) + 1)) ≤ (oCos (fm (oX a) (oX a)) k : Rat) - u * cosP (yy a) (2 * k + 2) ∧ (oCos (fm (oX a) (oX a)) k : Rat) - u * cosP (yy a) (2 * k + 2) ≤ 8 * ((k : Rat) + 1)
 | 0 => by
  obtain ⟨e1, e2⟩ := oC_err h0 h1 0
  have e : cosP (yy a) (2 * 0 + 2) = F (yy a) (2 * 0) := by
   show 0 + (ca 0).1 * F (yy a) 0 + (ca 1).1 * F (yy a) 1 = F (yy a) 0
   simp only [ca]; grind
  rw [e]
  have : oCos (fm (oX a) (oX a)) 0 = oC (fm (oX a) (oX a)) 0 := rfl
  rw [this]
  have hz : ((0 : Nat) : Rat) = 0 := rfl
  rw [hz]
  constructor <;> grind
 | k + 1 => by
  obtain ⟨e1, e2⟩ := oCos_err k
  obtain ⟨e3, e4⟩ := oC_err h0 h1 (k + 1)
  have es : cosP (yy a) (2 * (k + 1) + 2) = cosP (yy a) (2 * k + 2) + (ca (2 * (k + 1))).1 * F (yy a) (2 * (k + 1)) + (ca (2 * (k + 1) + 1)).1 * F (yy a) (2 * (k + 1) + 1) := rfl
  rw [(ca_two (k + 1)).1, (ca_two (k + 1)).2] at es
  simp only at es
  rw [es]
  have hd : oCos (fm (oX a) (oX a)) (k + 1) = if (k + 1) % 2 = 1 then oCos (fm (oX a) (oX a)) k - oC (fm (oX a) (oX a)) (k + 1) else oCos (fm (oX a) (oX a)) k + oC (fm (oX a) (oX a)) (k + 1) := rfl
  rw [hd]
  have hc : ((k + 1 : Nat) : Rat) = (k : Rat) + 1 := by push_cast; rfl
  rw [hc]
  unfold sgn
  by_cases c : (k + 1) % 2 = 1
  ·rw [if_pos c, if_pos c]
   push_cast
   constructor <;> grind
  ·rw [if_neg c, if_neg c]
   push_cast
   constructor <;> grind
end
end Go.Proofs.Ytmahlfjnejbcnaa.OctT
