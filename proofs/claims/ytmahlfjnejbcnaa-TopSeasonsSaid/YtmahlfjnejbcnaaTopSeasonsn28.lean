/- The reference's sine and cosine are no longer than the unit, but for 2500 units of 2 to the power of -60. -/
import Derived.Test.YtmahlfjnejbcnaaTopSeasonsn25
namespace Go.Proofs.Ytmahlfjnejbcnaa.Norm
open Go.RowKit YtmahlfjnejbcnaaW.PrintWords YtmahlfjnejbcnaaW.PrintLast Opn PAll Base Turn Fix Oct OctT SinT RefT
set_option linter.unusedVariables false
set_option linter.unusedSimpArgs false
def q : Rat := 1 / 1152921504606846976
theorem q_eq : q * 1152921504606846976 = 1 := by decide +kernel
theorem q_pos : 0 ≤ q := by decide +kernel
theorem norm_step {a c x y N B : Rat} (a1 : -B ≤ a) (a2 : a ≤ B) (B0 : 0 ≤ B) (B1 : B ≤ 1001 / 1000) (c1 : -(1001 / 1000) ≤ c) (c2 : c ≤ 1001 / 1000) (x1 : -(4 * q) ≤ x) (x2 : x ≤ 4 * q) (y1 : -(4 * q) ≤ y) (y2 : y ≤ 4 * q) (n1 : -N ≤ a * a + c * c - 1) (n2 : a * a + c * c - 1 ≤ N) :
  -(4 * (B * B) * N + 25 * q) ≤ (2 * (a * c) + x) * (2 * (a * c) + x) + (1 - 2 * (a * a) - y) * (1 - 2 * (a * a) - y) - 1 ∧ (2 * (a * c) + x) * (2 * (a * c) + x) + (1 - 2 * (a * a) - y) * (1 - 2 * (a * a) - y) - 1 ≤ 4 * (B * B) * N + 25 * q := by
 have e : (2 * (a * c) + x) * (2 * (a * c) + x) + (1 - 2 * (a * a) - y) * (1 - 2 * (a * a) - y) - 1 = 4 * ((a * a) * (a * a + c * c - 1)) + 4 * ((a * c) * x) + x * x - 2 * ((1 - 2 * (a * a)) * y) + y * y := by grind
 rw [e]
 obtain ⟨p1, p2⟩ := abs_mul a1 a2 a1 a2
 obtain ⟨p3, p4⟩ := abs_mul (a := a * a) (b := a * a + c * c - 1) p1 p2 n1 n2
 have ha1 : -(1001 / 1000) ≤ a := by grind
 have ha2 : a ≤ 1001 / 1000 := by grind
 obtain ⟨r1, r2⟩ := abs_mul ha1 ha2 c1 c2
 obtain ⟨r3, r4⟩ := abs_mul (a := a * c) (b := x) r1 r2 x1 x2
 obtain ⟨r5, r6⟩ := abs_mul ha1 ha2 ha1 ha2
 have r7 := sq_nonneg a
 obtain ⟨r8, r9⟩ := abs_mul (a := 1 - 2 * (a * a)) (b := y) (A := 1005 / 1000) (B := 4 * q) (by grind) (by grind) y1 y2
 obtain ⟨t1, t2⟩ := abs_mul x1 x2 x1 x2
 obtain ⟨t3, t4⟩ := abs_mul y1 y2 y1 y2
 have hq : q * q ≤ q * (1 / 1000000) := Rat.mul_le_mul_of_nonneg_left (by decide +kernel) q_pos
 have hq0 := q_pos
 generalize (a * a) * (a * a + c * c - 1) = P at *
 generalize (a * c) * x = R at *
 generalize (1 - 2 * (a * a)) * y = Y at *
 generalize x * x = XX at *
 generalize y * y = YY at *
 clear e n1 n2 p1 p2 r1 r2 r5 r6 r7
 constructor <;> grind
def Nb : Nat → Rat
 | 0 => 20 * q
 | j + 1 => 4 * ((Bq j + 1 / 1000000) * (Bq j + 1 / 1000000)) * Nb j + 25 * q
theorem Nb_zero : Nb 0 = 20 * q := by rw [Nb]
theorem Nb_succ (j : Nat) : Nb (j + 1) = 4 * ((Bq j + 1 / 1000000) * (Bq j + 1 / 1000000)) * Nb j + 25 * q := by rw [Nb]
theorem Nb_last : Nb 12 ≤ 2400 * q := by decide +kernel
theorem scaled {s : Int} {S E : Rat} (h1 : -E ≤ (s : Rat) - u * S) (h2 : (s : Rat) - u * S ≤ E) : -(E * q) ≤ (s : Rat) * q - S ∧ (s : Rat) * q - S ≤ E * q := by
 have k1 := Rat.mul_le_mul_of_nonneg_left h1 q_pos
 have k2 := Rat.mul_le_mul_of_nonneg_left h2 q_pos
 have hq := q_eq
 rw [u_eq] at *
 have e : q * ((s : Rat) - 1152921504606846976 * S) = (s : Rat) * q - S := by grind
 rw [e] at k1 k2
 clear e h1 h2
 constructor <;> grind
theorem rm_scaled (a b : Int) : -(2 * q) ≤ (rm a b : Rat) * q - ((a : Rat) * q) * ((b : Rat) * q) ∧ (rm a b : Rat) * q - ((a : Rat) * q) * ((b : Rat) * q) ≤ 2 * q := by
 obtain ⟨f1, f2⟩ := rm_tells a b
 have f1 := clt f1
 have f2 := clt f2
 push_cast at f1 f2
 have hq := q_eq
 have h0 : 0 ≤ q * q := Rat.mul_nonneg q_pos q_pos
 have k1 := Rat.mul_le_mul_of_nonneg_left (Rat.le_of_lt f1) h0
 have k2 := Rat.mul_le_mul_of_nonneg_left (Rat.le_of_lt f2) h0
 generalize (rm a b : Rat) = m at *
 generalize (a : Rat) = x at *
 generalize (b : Rat) = y at *
 have e1 : q * q * (m * 1152921504606846976) = m * q := by
  have : q * q * (m * 1152921504606846976) = m * q * (q * 1152921504606846976) := by grind
  rw [this, hq]; grind
 have e2 : q * q * (x * y - 2305843009213693952) = x * q * (y * q) - 2 * q := by
  have : q * q * (x * y - 2305843009213693952) = x * q * (y * q) - 2 * q * (q * 1152921504606846976) := by grind
  rw [this, hq]; grind
 have e3 : q * q * (x * y + 2305843009213693952) = x * q * (y * q) + 2 * q := by
  have : q * q * (x * y + 2305843009213693952) = x * q * (y * q) + 2 * q * (q * 1152921504606846976) := by grind
  rw [this, hq]; grind
 rw [e1, e2] at k1
 rw [e1, e3] at k2
 clear e1 e2 e3 f1 f2 hq h0
 constructor <;> grind
def len2 (t : Int) (j : Nat) : Rat := ((rs t j).1 : Rat) * q * (((rs t j).1 : Rat) * q) + ((1152921504606846976 - (rs t j).2 : Int) : Rat) * q * (((1152921504606846976 - (rs t j).2 : Int) : Rat) * q) - 1
theorem first_len {a c S C : Rat} (h1 : -(45 * q) ≤ a - S) (h2 : a - S ≤ 45 * q) (h3 : -(6 * q) ≤ c - C) (h4 : c - C ≤ 6 * q) (hS : -(154 / 100000) ≤ S) (hS2 : S ≤ 154 / 100000) (c1 : -1 ≤ C) (c2 : C ≤ 1) (hh : C * C + S * S = 1) : -(20 * q) ≤ a * a + c * c - 1 ∧ a * a + c * c - 1 ≤ 20 * q := by
 obtain ⟨p1, p2⟩ := abs_mul h1 h2 hS hS2
 obtain ⟨p3, p4⟩ := abs_mul h3 h4 c1 c2
 obtain ⟨p5, p6⟩ := abs_mul h1 h2 h1 h2
 obtain ⟨p7, p8⟩ := abs_mul h3 h4 h3 h4
 have hq : q * q ≤ q * (1 / 1000000) := Rat.mul_le_mul_of_nonneg_left (by decide +kernel) q_pos
 have hq0 := q_pos
 have e : a * a + c * c - 1 = 2 * ((a - S) * S) + 2 * ((c - C) * C) + (a - S) * (a - S) + (c - C) * (c - C) := by grind
 rw [e]
 generalize (a - S) * S = x1 at *
 generalize (c - C) * C = x2 at *
 generalize (a - S) * (a - S) = x3 at *
 generalize (c - C) * (c - C) = x4 at *
 clear e hh h1 h2 h3 h4
 constructor <;> grind
theorem len_bound {t : Int} (h0 : 0 ≤ t) (h1 : t < 1000000000000000) : ∀ j, j ≤ 12 → -Nb j ≤ len2 t j ∧ len2 t j ≤ Nb j
 | 0, _ => by
  rw [Nb_zero]
  unfold len2
  obtain ⟨⟨a1, a2⟩, ⟨a3, a4⟩, a5, a6⟩ := rs_err h0 h1 0 (by omega)
  rw [Eb_zero] at a1 a2 a3 a4
  rw [Bq_zero] at a5 a6
  obtain ⟨b1, b2⟩ := scaled a1 a2
  have c := cos_flip a3 a4
  obtain ⟨b3, b4⟩ := scaled c.1 c.2
  obtain ⟨u1, u2, u3, u4⟩ := T_bound (mm t 0)
  exact first_len b1 b2 b3 b4 a5 a6 u1 u2 (T_sq _)
 | j + 1, hj => by
  obtain ⟨n1, n2⟩ := len_bound h0 h1 j (by omega)
  obtain ⟨⟨a1, a2⟩, ⟨a3, a4⟩, a5, a6⟩ := rs_err h0 h1 j (by omega)
  obtain ⟨s1', s2', s3', s4'⟩ := Eb_small (show j ≤ 12 by omega)
  obtain ⟨q1, q2⟩ := Bq_le j
  obtain ⟨b1, b2⟩ := scaled a1 a2
  have c := cos_flip a3 a4
  obtain ⟨b3, b4⟩ := scaled c.1 c.2
  obtain ⟨u1, u2, u3, u4⟩ := T_bound (mm t j)
  have m1 := rm_scaled (rs t j).1 (1152921504606846976 - (rs t j).2)
  have m2 := rm_scaled (rs t j).1 (rs t j).1
  have hsm : (Eb j).1 * q ≤ 1 / 1000000 := by
   have := Rat.mul_le_mul_of_nonneg_left s1' q_pos
   have k : q * 1600000 ≤ 1 / 1000000 := by decide +kernel
   grind
  have hsm2 : (Eb j).2 * q ≤ 1 / 1000000 := by
   have := Rat.mul_le_mul_of_nonneg_left s2' q_pos
   have k : q * 1600000 ≤ 1 / 1000000 := by decide +kernel
   grind
  unfold len2 at n1 n2 ⊢
  rw [Nb_succ, rs_succ1, rs_succ2]
  generalize hr1 : rm (rs t j).1 (1152921504606846976 - (rs t j).2) = r1 at *
  generalize hr2 : rm (rs t j).1 (rs t j).1 = r2 at *
  generalize ((rs t j).1 : Rat) * q = a at *
  generalize ((1152921504606846976 - (rs t j).2 : Int) : Rat) * q = c at *
  have e1 : ((2 * r1 : Int) : Rat) * q = 2 * (a * c) + (2 * ((r1 : Rat) * q - a * c)) := by push_cast; grind
  have e2 : ((1152921504606846976 - 2 * r2 : Int) : Rat) * q = 1 - 2 * (a * a) - (2 * ((r2 : Rat) * q - a * a)) := by
   have := q_eq
   push_cast; grind
  rw [e1, e2]
  refine norm_step (B := Bq j + 1 / 1000000) ?_ ?_ ?_ ?_ ?_ ?_ ?_ ?_ ?_ ?_ n1 n2
  all_goals clear e1 e2 n1 n2 hr1 hr2 a1 a2 a3 a4
  ·grind
  ·grind
  ·grind
  ·grind
  ·grind
  ·grind
  ·grind
  ·grind
  ·grind
  ·grind
theorem len_one {a c : Rat} (h : a * a + c * c - 1 ≤ 2400 * q) : -(1 + 2400 * q) ≤ a ∧ a ≤ 1 + 2400 * q := by
 have h1 := sq_nonneg c
 have hq := q_pos
 have k0 : a * a ≤ 1 + 2400 * q := by grind
 have k1 : 0 ≤ q * q := Rat.mul_nonneg hq hq
 have go : ∀ b : Rat, b * b ≤ 1 + 2400 * q → b ≤ 1 + 2400 * q := by
  intro b hb
  rcases (Rat.le_total : b ≤ 1 + 2400 * q ∨ 1 + 2400 * q ≤ b) with h | h
  ·exact h
  ·have := Rat.mul_le_mul_of_nonneg_left h (show 0 ≤ b by grind)
   have := Rat.mul_le_mul_of_nonneg_left (show 1 ≤ 1 + 2400 * q by grind) (show 0 ≤ b by grind)
   grind
 have g1 := go a k0
 have g2 := go (-a) (by grind)
 constructor <;> grind
theorem unscaled {s : Int} (h : -(1 + 2400 * q) ≤ (s : Rat) * q ∧ (s : Rat) * q ≤ 1 + 2400 * q) : -1152921504606849376 ≤ s ∧ s ≤ 1152921504606849376 := by
 obtain ⟨h1, h2⟩ := h
 have hq := q_eq
 have k1 := Rat.mul_le_mul_of_nonneg_left h1 (show (0 : Rat) ≤ 1152921504606846976 by decide +kernel)
 have k2 := Rat.mul_le_mul_of_nonneg_left h2 (show (0 : Rat) ≤ 1152921504606846976 by decide +kernel)
 have e : 1152921504606846976 * ((s : Rat) * q) = (s : Rat) := by
  have : 1152921504606846976 * ((s : Rat) * q) = (s : Rat) * (q * 1152921504606846976) := by grind
  rw [this, hq]; grind
 rw [e] at k1 k2
 clear e h1 h2
 constructor
 ·refine int_of_rat ?_
  push_cast; grind
 ·refine int_of_rat ?_
  push_cast; grind
theorem rs_len {t : Int} (h0 : 0 ≤ t) (h1 : t < 1000000000000000) : (-1152921504606849376 ≤ (rs t 12).1 ∧ (rs t 12).1 ≤ 1152921504606849376) ∧ (-1152921504606849376 ≤ 1152921504606846976 - (rs t 12).2 ∧ 1152921504606846976 - (rs t 12).2 ≤ 1152921504606849376) := by
 obtain ⟨_, n2⟩ := len_bound h0 h1 12 (by omega)
 have n2 := Rat.le_trans n2 Nb_last
 unfold len2 at n2
 refine ⟨unscaled (len_one n2), unscaled (len_one (c := ((rs t 12).1 : Rat) * q) ?_)⟩
 generalize ((rs t 12).1 : Rat) * q * (((rs t 12).1 : Rat) * q) = x at *
 grind
theorem sincos_all {a : Int} (ha : -9223372036854775808 ≤ a) : ∃ s c : Int, (∀ f, ephemerisref2_SinCos.f (f + 13) a = some (s, c)) ∧ (-1600000 ≤ (s : Rat) - u * sinT (ag (a % 1000000000000000)) ∧ (s : Rat) - u * sinT (ag (a % 1000000000000000)) ≤ 1600000) ∧ (-1600000 ≤ (c : Rat) - u * cosT (ag (a % 1000000000000000)) ∧ (c : Rat) - u * cosT (ag (a % 1000000000000000)) ≤ 1600000) ∧
  (-1152921504606849376 ≤ s ∧ s ≤ 1152921504606849376) ∧ (-1152921504606849376 ≤ c ∧ c ≤ 1152921504606849376) := by
 have h0 : 0 ≤ a % 1000000000000000 := by omega
 have h1 : a % 1000000000000000 < 1000000000000000 := by omega
 obtain ⟨⟨a1, a2⟩, ⟨a3, a4⟩, _⟩ := rs_err h0 h1 12 (by omega)
 obtain ⟨s1', s2', _, _⟩ := Eb_small (show 12 ≤ 12 by omega)
 obtain ⟨b1, b2⟩ := rs_len h0 h1
 rw [mm_ag] at a1 a2 a3 a4
 obtain ⟨c1, c2⟩ := cos_flip a3 a4
 exact ⟨(rs (a % 1000000000000000) 12).1, 1152921504606846976 - (rs (a % 1000000000000000) 12).2, sincos_run rfl ha, ⟨neg_of a1 s1', le_of a2 s1'⟩, ⟨neg_of c1 s2', le_of c2 s2'⟩, b1, b2⟩
end Go.Proofs.Ytmahlfjnejbcnaa.Norm
