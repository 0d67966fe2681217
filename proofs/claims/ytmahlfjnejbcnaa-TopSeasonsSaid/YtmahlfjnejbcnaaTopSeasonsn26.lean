/- Sine and cosine of whole arguments, 10 ^ 15 in a turn, out of the rotation: sums, quarters, how they rise and fall, how fast they change. -/
import Derived.Test.YtmahlfjnejbcnaaTopSeasonsn25
namespace Go.Proofs.Ytmahlfjnejbcnaa.Circ
open Turn OctT SinT RefT
set_option linter.unusedVariables false
set_option linter.unusedSimpArgs false
def Nr (x e : Rat) : Prop := -e ≤ x ∧ x ≤ e
theorem turn4 (m : Nat) : (-(1 / 100000000000000000000) ≤ sinT (m + 4 * n4) - sinT m ∧ sinT (m + 4 * n4) - sinT m ≤ 1 / 100000000000000000000) ∧ (-(1 / 100000000000000000000) ≤ cosT (m + 4 * n4) - cosT m ∧ cosT (m + 4 * n4) - cosT m ≤ 1 / 100000000000000000000) := by
 obtain ⟨a1, a2, a3, a4⟩ := quarter m
 obtain ⟨b1, b2, b3, b4⟩ := quarter (m + n4)
 obtain ⟨c1, c2, c3, c4⟩ := quarter (m + n4 + n4)
 obtain ⟨d1, d2, d3, d4⟩ := quarter (m + n4 + n4 + n4)
 rw [show m + 4 * n4 = m + n4 + n4 + n4 + n4 by omega]
 generalize sinT m = x0 at *
 generalize cosT m = y0 at *
 generalize sinT (m + n4) = x1 at *
 generalize cosT (m + n4) = y1 at *
 generalize sinT (m + n4 + n4) = x2 at *
 generalize cosT (m + n4 + n4) = y2 at *
 generalize sinT (m + n4 + n4 + n4) = x3 at *
 generalize cosT (m + n4 + n4 + n4) = y3 at *
 generalize sinT (m + n4 + n4 + n4 + n4) = x4 at *
 generalize cosT (m + n4 + n4 + n4 + n4) = y4 at *
 refine ⟨⟨?_, ?_⟩, ⟨?_, ?_⟩⟩ <;> grind
theorem n8_le {n : Nat} (h : n ≤ n8) : s1 * (n : Rat) ≤ 786 / 1000 := by
 have h1 : (n : Rat) ≤ (n8 : Rat) := by exact_mod_cast h
 have h2 := Rat.mul_le_mul_of_nonneg_left h1 s1_nonneg
 have h3 : s1 * (n8 : Rat) ≤ 786 / 1000 := by decide +kernel
 grind
theorem sn_nonneg (n : Nat) : 0 ≤ s1 * (n : Rat) := Rat.mul_nonneg s1_nonneg (by exact_mod_cast Nat.zero_le n)
theorem first_quarter {n : Nat} (h : n ≤ n4) : -(1 / 500000000000000000000) ≤ sinT n ∧ -(1 / 500000000000000000000) ≤ cosT n := by
 by_cases c : n ≤ n8
 ·obtain ⟨a, b⟩ := rough (n8_le c) (sn_nonneg n)
  constructor <;> grind
 ·obtain ⟨a, b⟩ := rough (n := n4 - n) (n8_le (by have := n4_eq; omega)) (sn_nonneg _)
  obtain ⟨c1, c2, c3, c4⟩ := complement (k := n) (m := n4 - n) (by omega)
  clear c h
  generalize sinT n = x1 at *
  generalize cosT n = x2 at *
  generalize sinT (n4 - n) = x3 at *
  generalize cosT (n4 - n) = x4 at *
  constructor <;> grind
theorem second_quarter {n : Nat} (h : n ≤ 2 * n4) : -(1 / 200000000000000000000) ≤ sinT n := by
 by_cases c : n ≤ n4
 ·have := (first_quarter c).1
  grind
 ·obtain ⟨m, rfl⟩ : ∃ m, n = m + n4 := ⟨n - n4, by omega⟩
  obtain ⟨a1, a2, a3, a4⟩ := quarter m
  have := (first_quarter (n := m) (by omega)).2
  clear c h a2 a3 a4
  generalize sinT (m + n4) = x at *
  generalize cosT m = y at *
  grind
theorem dec_step {C S c s : Rat} (h : c * c + s * s = 1) (hc : 0 ≤ c) (c1 : c ≤ 1) (hs : 0 ≤ s) (hs2 : s ≤ 1 / 100000000000000000000000000) (hC1 : -1 ≤ C) (hC2 : C ≤ 1) (hS : -(1 / 200000000000000000000) ≤ S) : C * c - S * s ≤ C + s * (1 / 100000000000000000000) := by
 have a1 := Rat.mul_le_mul_of_nonneg_left hS hs
 have q0 : 0 ≤ 1 - c := by grind
 have q1 : 1 - c ≤ s * s := by
  have := Rat.mul_nonneg hc q0
  grind
 have a2 := Rat.mul_le_mul_of_nonneg_left hs2 hs
 have a3 := Rat.mul_le_mul_of_nonneg_left hC1 q0
 grind
theorem cosT_dec (n : Nat) : ∀ k, n + k ≤ 2 * n4 → cosT (n + k) ≤ cosT n + s1 * (k : Rat) * (1 / 100000000000000000000)
 | 0, _ => by
  have : ((0 : Nat) : Rat) = 0 := rfl
  rw [this, Nat.add_zero]; grind
 | k + 1, h => by
  have ih := cosT_dec n k (by omega)
  have hS := second_quarter (n := n + k) (by omega)
  obtain ⟨u1, u2, _, _⟩ := T_bound (n + k)
  have e : cosT (n + (k + 1)) = cosT (n + k) * c1 - sinT (n + k) * s1 := rfl
  have hc : ((k + 1 : Nat) : Rat) = (k : Rat) + 1 := by push_cast; rfl
  have := dec_step step_sq c1_nonneg (unit_bound step_sq).2.1 s1_nonneg s1_small u1 u2 hS
  rw [e, hc]
  clear e hc h hS u1 u2
  generalize cosT (n + k) * c1 - sinT (n + k) * s1 = x at *
  generalize cosT (n + k) = y at *
  generalize cosT n = z at *
  generalize (k : Rat) = r at *
  generalize s1 = q at *
  grind
theorem cosT_mono {n m : Nat} (h : n ≤ m) (h2 : m ≤ 2 * n4) : cosT m ≤ cosT n + 1 / 10000000000000000000 := by
 have := cosT_dec n (m - n) (by omega)
 rw [show n + (m - n) = m by omega] at this
 have k1 : s1 * ((m - n : Nat) : Rat) ≤ s1 * ((2 * n4 : Nat) : Rat) := Rat.mul_le_mul_of_nonneg_left (by exact_mod_cast (show m - n ≤ 2 * n4 by omega)) s1_nonneg
 have k2 : s1 * ((2 * n4 : Nat) : Rat) ≤ 4 := by decide +kernel
 generalize s1 * ((m - n : Nat) : Rat) = x at *
 generalize s1 * ((2 * n4 : Nat) : Rat) = y at *
 generalize cosT m = z at *
 generalize cosT n = w at *
 clear h h2
 grind
def S (t : Int) : Rat := sinT (ag (t % 1000000000000000))
def C (t : Int) : Rat := cosT (ag (t % 1000000000000000))
theorem SC_sq (t : Int) : C t * C t + S t * S t = 1 := T_sq _
theorem SC_bound (t : Int) : -1 ≤ C t ∧ C t ≤ 1 ∧ -1 ≤ S t ∧ S t ≤ 1 := T_bound _
theorem S_per {a b : Int} (h : a % 1000000000000000 = b % 1000000000000000) : S a = S b := by unfold S; rw [h]
theorem C_per {a b : Int} (h : a % 1000000000000000 = b % 1000000000000000) : C a = C b := by unfold C; rw [h]
theorem ag_zero : ag 0 = 0 := by unfold ag; simp
theorem S_zero : S 0 = 0 := by unfold S; rw [show (0 : Int) % 1000000000000000 = 0 by omega, ag_zero]; rfl
theorem C_zero : C 0 = 1 := by unfold C; rw [show (0 : Int) % 1000000000000000 = 0 by omega, ag_zero]; rfl
theorem ag_add {a b : Int} (ha : 0 ≤ a) (hb : 0 ≤ b) : ag (a + b) = ag a + ag b := by
 unfold ag
 rw [show (a + b).toNat = a.toNat + b.toNat by omega, Nat.add_mul]
theorem ag_turn : ag 1000000000000000 = 4 * n4 := by decide +kernel
theorem ag_half : ag 500000000000000 = 2 * n4 := by decide +kernel
theorem ag_quarter : ag 250000000000000 = n4 := by decide +kernel
theorem ag_le {a b : Int} (h : a ≤ b) : ag a ≤ ag b := by
 unfold ag
 exact Nat.mul_le_mul_right _ (by omega)
theorem SC_add (a b : Int) : Nr (S (a + b) - (S a * C b + C a * S b)) (1 / 100000000000000000000) ∧ Nr (C (a + b) - (C a * C b - S a * S b)) (1 / 100000000000000000000) := by
 unfold S C Nr
 have e := Int.add_emod a b 1000000000000000
 rw [e]
 have a0 : 0 ≤ a % 1000000000000000 := by omega
 have a1 : a % 1000000000000000 < 1000000000000000 := by omega
 have b0 : 0 ≤ b % 1000000000000000 := by omega
 have b1 : b % 1000000000000000 < 1000000000000000 := by omega
 generalize a % 1000000000000000 = x at *
 generalize b % 1000000000000000 = y at *
 have hs := sinT_add (ag x) (ag y)
 have hc := cosT_add (ag x) (ag y)
 by_cases c : x + y < 1000000000000000
 ·rw [show (x + y) % 1000000000000000 = x + y by omega, ag_add a0 b0, hs, hc]
  clear hs hc c a0 a1 b0 b1 e
  generalize sinT (ag x) * cosT (ag y) + cosT (ag x) * sinT (ag y) = p
  generalize cosT (ag x) * cosT (ag y) - sinT (ag x) * sinT (ag y) = q
  refine ⟨⟨?_, ?_⟩, ⟨?_, ?_⟩⟩ <;> grind
 ·have k := turn4 (ag (x + y - 1000000000000000))
  rw [← ag_turn, ← ag_add (by omega) (by omega), show x + y - 1000000000000000 + 1000000000000000 = x + y by omega, ag_add a0 b0, hs, hc] at k
  rw [show (x + y) % 1000000000000000 = x + y - 1000000000000000 by omega]
  obtain ⟨⟨k1, k2⟩, ⟨k3, k4⟩⟩ := k
  clear hs hc c a0 a1 b0 b1 e
  generalize sinT (ag x) * cosT (ag y) + cosT (ag x) * sinT (ag y) = p at *
  generalize cosT (ag x) * cosT (ag y) - sinT (ag x) * sinT (ag y) = q at *
  generalize sinT (ag (x + y - 1000000000000000)) = p' at *
  generalize cosT (ag (x + y - 1000000000000000)) = q' at *
  refine ⟨⟨?_, ?_⟩, ⟨?_, ?_⟩⟩ <;> grind
theorem neg_aux {s c s' c' e : Rat} (h : c * c + s * s = 1) (b1 : -1 ≤ c) (b2 : c ≤ 1) (b3 : -1 ≤ s) (b4 : s ≤ 1) (h1 : -e ≤ s * c' + c * s') (h2 : s * c' + c * s' ≤ e) (h3 : -e ≤ c * c' - s * s' - 1) (h4 : c * c' - s * s' - 1 ≤ e) :
  (-(2 * e) ≤ s' + s ∧ s' + s ≤ 2 * e) ∧ (-(2 * e) ≤ c' - c ∧ c' - c ≤ 2 * e) := by
 obtain ⟨p1, p2⟩ := abs_mul b1 b2 h1 h2
 obtain ⟨q1, q2⟩ := abs_mul b3 b4 h3 h4
 obtain ⟨r1, r2⟩ := abs_mul b3 b4 h1 h2
 obtain ⟨t1, t2⟩ := abs_mul b1 b2 h3 h4
 have e1 : s' + s = c * (s * c' + c * s') - s * (c * c' - s * s' - 1) := by
  have : c * (s * c' + c * s') - s * (c * c' - s * s' - 1) = s' * (c * c + s * s) + s := by grind
  rw [this, h]; grind
 have e2 : c' - c = c * (c * c' - s * s' - 1) + s * (s * c' + c * s') := by
  have : c * (c * c' - s * s' - 1) + s * (s * c' + c * s') = c' * (c * c + s * s) - c := by grind
  rw [this, h]; grind
 rw [e1, e2]
 refine ⟨⟨?_, ?_⟩, ⟨?_, ?_⟩⟩ <;> grind
theorem SC_neg (a : Int) : Nr (S (-a) + S a) (1 / 50000000000000000000) ∧ Nr (C (-a) - C a) (1 / 50000000000000000000) := by
 obtain ⟨⟨h1, h2⟩, ⟨h3, h4⟩⟩ := SC_add a (-a)
 obtain ⟨b1, b2, b3, b4⟩ := SC_bound a
 rw [show a + -a = 0 by omega, S_zero] at h1 h2
 rw [show a + -a = 0 by omega, C_zero] at h3 h4
 have := neg_aux (e := 1 / 100000000000000000000) (SC_sq a) b1 b2 b3 b4 (s' := S (-a)) (c' := C (-a)) (by grind) (by grind) (by grind) (by grind)
 obtain ⟨⟨k1, k2⟩, ⟨k3, k4⟩⟩ := this
 unfold Nr
 clear h1 h2 h3 h4 b1 b2 b3 b4
 generalize S (-a) = x at *
 generalize C (-a) = y at *
 generalize S a = z at *
 generalize C a = w at *
 refine ⟨⟨?_, ?_⟩, ⟨?_, ?_⟩⟩ <;> grind
theorem C_dec {a b : Int} (h0 : 0 ≤ a) (h : a ≤ b) (h1 : b ≤ 500000000000000) : C b ≤ C a + 1 / 10000000000000000000 := by
 unfold C
 rw [show a % 1000000000000000 = a by omega, show b % 1000000000000000 = b by omega]
 exact cosT_mono (ag_le h) (by rw [← ag_half]; exact ag_le h1)
theorem C_mirror (a : Int) : Nr (C (1000000000000000 - a) - C a) (1 / 50000000000000000000) := by
 have := (SC_neg a).2
 rwa [C_per (a := 1000000000000000 - a) (b := -a) (by omega)]
theorem C_ends {x y z : Int} (h0 : 0 ≤ x) (h1 : x ≤ y) (h2 : y ≤ z) (h3 : z ≤ 1000000000000000) : C y ≤ C x + 1 / 1000000000000000000 ∨ C y ≤ C z + 1 / 1000000000000000000 := by
 by_cases c : y ≤ 500000000000000
 ·left
  have := C_dec h0 h1 c
  generalize C x = p at *
  generalize C y = q at *
  clear h0 h1 h2 h3 c
  grind
 ·right
  have k := C_dec (a := 1000000000000000 - z) (b := 1000000000000000 - y) (by omega) (by omega) (by omega)
  obtain ⟨a1, a2⟩ := C_mirror y
  obtain ⟨b1, b2⟩ := C_mirror z
  clear h0 h1 h2 h3 c
  generalize C (1000000000000000 - z) = p at *
  generalize C (1000000000000000 - y) = q at *
  generalize C y = r at *
  generalize C z = s at *
  grind
theorem C_ends_at {x y z p : Int} (h0 : p * 1000000000000000 ≤ x) (h1 : x ≤ y) (h2 : y ≤ z) (h3 : z ≤ p * 1000000000000000 + 1000000000000000) : C y ≤ C x + 1 / 1000000000000000000 ∨ C y ≤ C z + 1 / 1000000000000000000 := by
 have := C_ends (x := x - p * 1000000000000000) (y := y - p * 1000000000000000) (z := z - p * 1000000000000000) (by omega) (by omega) (by omega) (by omega)
 rwa [C_per (a := x - p * 1000000000000000) (b := x) (by omega), C_per (a := y - p * 1000000000000000) (b := y) (by omega), C_per (a := z - p * 1000000000000000) (b := z) (by omega)] at this
theorem quarter_at (a : Int) : Nr (S (a + 250000000000000) - C a) (1 / 10000000000000000000) ∧ Nr (C (a + 250000000000000) + S a) (1 / 10000000000000000000) := by
 obtain ⟨⟨h1, h2⟩, ⟨h3, h4⟩⟩ := SC_add a 250000000000000
 obtain ⟨q1, q2, q3, q4⟩ := T4
 obtain ⟨b1, b2, b3, b4⟩ := SC_bound a
 have e1 : S 250000000000000 = sinT n4 := by unfold S; rw [show (250000000000000 : Int) % 1000000000000000 = 250000000000000 by omega, ag_quarter]
 have e2 : C 250000000000000 = cosT n4 := by unfold C; rw [show (250000000000000 : Int) % 1000000000000000 = 250000000000000 by omega, ag_quarter]
 rw [e1, e2] at h1 h2 h3 h4
 obtain ⟨p1, p2⟩ := q_aux q1 q2 q3 q4 b1 b2 b3 b4
 obtain ⟨p3, p4⟩ := q_aux q1 q2 q3 q4 (c := -S a) (s := C a) (by grind) (by grind) b1 b2
 unfold Nr
 generalize cosT n4 = C4 at *
 generalize sinT n4 = S4 at *
 generalize S (a + 250000000000000) = x at *
 generalize C (a + 250000000000000) = y at *
 generalize S a = s at *
 generalize C a = c at *
 refine ⟨⟨?_, ?_⟩, ⟨?_, ?_⟩⟩ <;> grind
theorem S_as (a : Int) : Nr (S a - C (a - 250000000000000)) (1 / 10000000000000000000) ∧ Nr (S a + C (a - 750000000000000)) (1 / 1000000000000000000) := by
 have h1 := (quarter_at (a - 250000000000000)).1
 have h2 := (quarter_at (a - 500000000000000)).2
 have h3 := (quarter_at (a - 750000000000000)).1
 have h4 := (quarter_at (a - 750000000000000)).2
 rw [show a - 250000000000000 + 250000000000000 = a by omega] at h1
 rw [show a - 500000000000000 + 250000000000000 = a - 250000000000000 by omega] at h2
 rw [show a - 750000000000000 + 250000000000000 = a - 500000000000000 by omega] at h3 h4
 unfold Nr at *
 generalize S a = x at *
 generalize C (a - 250000000000000) = y at *
 generalize C (a - 750000000000000) = z at *
 generalize S (a - 500000000000000) = w at *
 refine ⟨⟨?_, ?_⟩, ⟨?_, ?_⟩⟩ <;> grind
theorem step_lip {C S c s : Rat} (h : c * c + s * s = 1) (hc : 0 ≤ c) (c1 : c ≤ 1) (hs : 0 ≤ s) (C1 : -1 ≤ C) (C2 : C ≤ 1) (S1 : -1 ≤ S) (S2 : S ≤ 1) : -(s + s * s) ≤ S * c + C * s - S ∧ S * c + C * s - S ≤ s + s * s := by
 have q0 : 0 ≤ 1 - c := by grind
 have q1 : 1 - c ≤ s * s := by
  have := Rat.mul_nonneg hc q0
  grind
 obtain ⟨a1, a2⟩ := abs_mul (a := C) (b := s) (A := 1) (B := s) C1 C2 (by grind) (by grind)
 obtain ⟨b1, b2⟩ := abs_mul (a := S) (b := 1 - c) (A := 1) (B := s * s) S1 S2 (by grind) q1
 constructor <;> grind
theorem sinT_lip (n : Nat) : ∀ k : Nat, -((s1 + s1 * s1) * (k : Rat)) ≤ sinT (n + k) - sinT n ∧ sinT (n + k) - sinT n ≤ (s1 + s1 * s1) * (k : Rat)
 | 0 => by
  have : ((0 : Nat) : Rat) = 0 := rfl
  rw [this, Nat.add_zero]; constructor <;> grind
 | k + 1 => by
  obtain ⟨h1, h2⟩ := sinT_lip n k
  obtain ⟨u1, u2, u3, u4⟩ := T_bound (n + k)
  have e : sinT (n + (k + 1)) = sinT (n + k) * c1 + cosT (n + k) * s1 := rfl
  have hc : ((k + 1 : Nat) : Rat) = (k : Rat) + 1 := by push_cast; rfl
  obtain ⟨v1, v2⟩ := step_lip step_sq c1_nonneg (unit_bound step_sq).2.1 s1_nonneg u1 u2 u3 u4
  rw [e, hc]
  generalize sinT (n + k) * c1 + cosT (n + k) * s1 = x at *
  generalize sinT (n + k) = y at *
  generalize sinT n = z at *
  generalize s1 + s1 * s1 = q at *
  generalize (k : Rat) = r at *
  clear e hc u1 u2 u3 u4
  constructor <;> grind
def kap : Rat := 6283185307179587 / 1000000000000000000000000000000
theorem kap_ag {j : Int} (hj : 0 ≤ j) : (s1 + s1 * s1) * ((ag j : Nat) : Rat) ≤ kap * (j : Rat) := by
 have e : ((ag j : Nat) : Rat) = (j : Rat) * 1099511627776 := by
  unfold ag
  rw [Rat.natCast_mul]
  have : ((j.toNat : Nat) : Rat) = (j : Rat) := by
   have := Int.toNat_of_nonneg hj
   rw [← Rat.intCast_natCast, this]
  rw [this]; rfl
 rw [e]
 have k1 : (s1 + s1 * s1) * 1099511627776 ≤ kap := by decide +kernel
 have k2 : (0 : Rat) ≤ (j : Rat) := cle (a := 0) hj
 have := Rat.mul_le_mul_of_nonneg_left k1 k2
 generalize s1 + s1 * s1 = q at *
 generalize (j : Rat) = r at *
 grind
theorem kap_turn {j : Int} (hj : 1000000000000000 ≤ j) : 2 ≤ kap * (j : Rat) := by
 have := cle hj
 have k : kap * 1000000000000000 ≤ kap * (j : Rat) := Rat.mul_le_mul_of_nonneg_left this (by decide +kernel)
 have k2 : 2 ≤ kap * 1000000000000000 := by decide +kernel
 generalize kap * 1000000000000000 = x at *
 generalize kap * (j : Rat) = y at *
 grind
theorem kap_nonneg {j : Int} (hj : 0 ≤ j) : 0 ≤ kap * (j : Rat) := Rat.mul_nonneg (by decide +kernel) (cle (a := 0) hj)
theorem S_lip {a b : Int} (h : a ≤ b) : Nr (S b - S a) (kap * ((b - a : Int) : Rat) + 1 / 10000000000000000000) := by
 have kn := kap_nonneg (j := b - a) (by omega)
 by_cases w : 1000000000000000 ≤ b - a
 ·have k := kap_turn w
  have h1 := SC_bound a
  have h2 := SC_bound b
  unfold Nr
  generalize kap * ((b - a : Int) : Rat) = x at *
  generalize S a = y at *
  generalize S b = z at *
  generalize C a = y' at *
  generalize C b = z' at *
  clear kn w h
  constructor <;> grind
 ·have hk := kap_ag (j := b - a) (by omega)
  have x0 : 0 ≤ a % 1000000000000000 := by omega
  have x1 : a % 1000000000000000 < 1000000000000000 := by omega
  have hb : b % 1000000000000000 = (a % 1000000000000000 + (b - a)) % 1000000000000000 := by omega
  unfold S
  rw [hb]
  generalize a % 1000000000000000 = x at *
  generalize hj : b - a = j at *
  have j0 : 0 ≤ j := by omega
  clear hb hj h
  have l := sinT_lip (ag x) (ag j)
  rw [← ag_add x0 j0] at l
  by_cases c : x + j < 1000000000000000
  ·rw [show (x + j) % 1000000000000000 = x + j by omega]
   unfold Nr
   generalize sinT (ag (x + j)) = p at *
   generalize sinT (ag x) = q at *
   generalize kap * (j : Rat) = r at *
   generalize (s1 + s1 * s1) * ((ag j : Nat) : Rat) = r' at *
   clear c x0 x1 w j0
   constructor <;> grind
  ·have t := (turn4 (ag (x + j - 1000000000000000))).1
   rw [← ag_turn, ← ag_add (by omega) (by omega), show x + j - 1000000000000000 + 1000000000000000 = x + j by omega] at t
   rw [show (x + j) % 1000000000000000 = x + j - 1000000000000000 by omega]
   unfold Nr
   generalize sinT (ag (x + j - 1000000000000000)) = p' at *
   generalize sinT (ag (x + j)) = p at *
   generalize sinT (ag x) = q at *
   generalize kap * (j : Rat) = r at *
   generalize (s1 + s1 * s1) * ((ag j : Nat) : Rat) = r' at *
   clear c x0 x1 w j0
   constructor <;> grind
theorem C_lip {a b : Int} (h : a ≤ b) : Nr (C b - C a) (kap * ((b - a : Int) : Rat) + 1 / 1000000000000000000) := by
 have h1 := S_lip (a := a + 250000000000000) (b := b + 250000000000000) (by omega)
 rw [show b + 250000000000000 - (a + 250000000000000) = b - a by omega] at h1
 obtain ⟨h2, _⟩ := quarter_at a
 obtain ⟨h3, _⟩ := quarter_at b
 unfold Nr at *
 generalize kap * ((b - a : Int) : Rat) = x at *
 generalize S (a + 250000000000000) = y at *
 generalize S (b + 250000000000000) = z at *
 generalize C a = p at *
 generalize C b = q at *
 clear h
 constructor <;> grind
theorem over_hi {lo hi t k : Int} (h0 : lo * 1000000 ≤ t) (h1 : t ≤ hi * 1000000) (k0 : k * 1000000000 < lo - 250000000) (k1 : hi - 250000000 < k * 1000000000 + 1000000000) :
  S t ≤ S (lo * 1000000) + 1 / 100000000000000000 ∨ S t ≤ S (hi * 1000000) + 1 / 100000000000000000 := by
 have e := C_ends_at (p := k) (x := lo * 1000000 - 250000000000000) (y := t - 250000000000000) (z := hi * 1000000 - 250000000000000) (by omega) (by omega) (by omega) (by omega)
 have a1 := (S_as t).1
 have a2 := (S_as (lo * 1000000)).1
 have a3 := (S_as (hi * 1000000)).1
 unfold Nr at *
 clear h0 h1 k0 k1
 generalize S t = x1 at *
 generalize S (lo * 1000000) = x2 at *
 generalize S (hi * 1000000) = x3 at *
 generalize C (t - 250000000000000) = y1 at *
 generalize C (lo * 1000000 - 250000000000000) = y2 at *
 generalize C (hi * 1000000 - 250000000000000) = y3 at *
 rcases e with e | e
 ·left; grind
 ·right; grind
theorem over_lo {lo hi t k : Int} (h0 : lo * 1000000 ≤ t) (h1 : t ≤ hi * 1000000) (k0 : k * 1000000000 < lo - 750000000) (k1 : hi - 750000000 < k * 1000000000 + 1000000000) :
  S (lo * 1000000) ≤ S t + 1 / 100000000000000000 ∨ S (hi * 1000000) ≤ S t + 1 / 100000000000000000 := by
 have e := C_ends_at (p := k) (x := lo * 1000000 - 750000000000000) (y := t - 750000000000000) (z := hi * 1000000 - 750000000000000) (by omega) (by omega) (by omega) (by omega)
 have a1 := (S_as t).2
 have a2 := (S_as (lo * 1000000)).2
 have a3 := (S_as (hi * 1000000)).2
 unfold Nr at *
 clear h0 h1 k0 k1
 generalize S t = x1 at *
 generalize S (lo * 1000000) = x2 at *
 generalize S (hi * 1000000) = x3 at *
 generalize C (t - 750000000000000) = y1 at *
 generalize C (lo * 1000000 - 750000000000000) = y2 at *
 generalize C (hi * 1000000 - 750000000000000) = y3 at *
 rcases e with e | e
 ·left; grind
 ·right; grind
theorem near_top {t k : Int} (d : Int) (d0 : 0 ≤ d) (h0 : k * 1000000000000000 + 250000000000000 - d ≤ t) (h1 : t ≤ k * 1000000000000000 + 250000000000000 + d) : 1 - S t ≤ kap * (d : Rat) + 1 / 100000000000000000 := by
 have e : C (k * 1000000000000000) = 1 := by rw [C_per (b := 0) (by omega), C_zero]
 have a1 := (S_as t).1
 by_cases c : k * 1000000000000000 ≤ t - 250000000000000
 ·have l := C_lip c
  have m : kap * ((t - 250000000000000 - k * 1000000000000000 : Int) : Rat) ≤ kap * (d : Rat) := Rat.mul_le_mul_of_nonneg_left (cle (by omega)) (by decide +kernel)
  rw [e] at l
  unfold Nr at *
  generalize kap * ((t - 250000000000000 - k * 1000000000000000 : Int) : Rat) = x1 at *
  generalize kap * (d : Rat) = x2 at *
  generalize C (t - 250000000000000) = x3 at *
  generalize S t = x4 at *
  clear d0 h0 h1 c
  grind
 ·have l := C_lip (a := t - 250000000000000) (b := k * 1000000000000000) (by omega)
  have m : kap * ((k * 1000000000000000 - (t - 250000000000000) : Int) : Rat) ≤ kap * (d : Rat) := Rat.mul_le_mul_of_nonneg_left (cle (by omega)) (by decide +kernel)
  rw [e] at l
  unfold Nr at *
  generalize kap * ((k * 1000000000000000 - (t - 250000000000000) : Int) : Rat) = x1 at *
  generalize kap * (d : Rat) = x2 at *
  generalize C (t - 250000000000000) = x3 at *
  generalize S t = x4 at *
  clear d0 h0 h1 c
  grind
theorem near_bottom {t k : Int} (d : Int) (d0 : 0 ≤ d) (h0 : k * 1000000000000000 + 750000000000000 - d ≤ t) (h1 : t ≤ k * 1000000000000000 + 750000000000000 + d) : 1 + S t ≤ kap * (d : Rat) + 1 / 100000000000000000 := by
 have e : C (k * 1000000000000000) = 1 := by rw [C_per (b := 0) (by omega), C_zero]
 have a1 := (S_as t).2
 by_cases c : k * 1000000000000000 ≤ t - 750000000000000
 ·have l := C_lip c
  have m : kap * ((t - 750000000000000 - k * 1000000000000000 : Int) : Rat) ≤ kap * (d : Rat) := Rat.mul_le_mul_of_nonneg_left (cle (by omega)) (by decide +kernel)
  rw [e] at l
  unfold Nr at *
  generalize kap * ((t - 750000000000000 - k * 1000000000000000 : Int) : Rat) = x1 at *
  generalize kap * (d : Rat) = x2 at *
  generalize C (t - 750000000000000) = x3 at *
  generalize S t = x4 at *
  clear d0 h0 h1 c
  grind
 ·have l := C_lip (a := t - 750000000000000) (b := k * 1000000000000000) (by omega)
  have m : kap * ((k * 1000000000000000 - (t - 750000000000000) : Int) : Rat) ≤ kap * (d : Rat) := Rat.mul_le_mul_of_nonneg_left (cle (by omega)) (by decide +kernel)
  rw [e] at l
  unfold Nr at *
  generalize kap * ((k * 1000000000000000 - (t - 750000000000000) : Int) : Rat) = x1 at *
  generalize kap * (d : Rat) = x2 at *
  generalize C (t - 750000000000000) = x3 at *
  generalize S t = x4 at *
  clear d0 h0 h1 c
  grind
end Go.Proofs.Ytmahlfjnejbcnaa.Circ
