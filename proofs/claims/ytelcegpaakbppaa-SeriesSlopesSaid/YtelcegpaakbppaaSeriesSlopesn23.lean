/- Sine and cosine of whole arguments, 10 ^ 15 in a turn, out of the rotation: sums, quarters, how they rise and fall, how fast they change. -/
import Derived.Test.YtelcegpaakbppaaSeriesSlopesn22
namespace Go.Proofs.Ytelcegpaakbppaa.Circ
open Go.Proofs.Ytelcegpaakbppaa.Turn Go.Proofs.Ytelcegpaakbppaa.OctT Go.Proofs.Ytelcegpaakbppaa.SinT Go.Proofs.Ytelcegpaakbppaa.RefT
set_option linter.unusedVariables false
set_option linter.unusedSimpArgs false
/-- A number is at most e away from 0. -/
def Nr (x e : Rat) : Prop := -e ≤ x ∧ x ≤ e
theorem turn4 (m : Nat) : (-(1 / 100000000000000000000) ≤ sinT (m + 4 * n4) - sinT m ∧ sinT (m + 4 * n4) - sinT m ≤ 1 / 100000000000000000000) ∧ (-(1 / 100000000000000000000) ≤ cosT (m + 4 * n4) - cosT m ∧ cosT (m + 4 * n4) - cosT m ≤ 1 / 100000000000000000000) := by
  obtain ⟨a1, a2, a3, a4⟩ := quarter m
  obtain ⟨b1, b2, b3, b4⟩ := quarter (m + n4)
  obtain ⟨c1, c2, c3, c4⟩ := quarter (m + n4 + n4)
  obtain ⟨d1, d2, d3, d4⟩ := quarter (m + n4 + n4 + n4)
  rw [show m + 4 * n4 = m + n4 + n4 + n4 + n4 by omega]
  generalize sinT m = x0 at *
  generalize cosT m = y0 at *
  generalize sinT (m + n4) = x1 at *
  generalize cosT (m + n4) = y1 at *
  generalize sinT (m + n4 + n4) = x2 at *
  generalize cosT (m + n4 + n4) = y2 at *
  generalize sinT (m + n4 + n4 + n4) = x3 at *
  generalize cosT (m + n4 + n4 + n4) = y3 at *
  generalize sinT (m + n4 + n4 + n4 + n4) = x4 at *
  generalize cosT (m + n4 + n4 + n4 + n4) = y4 at *
  refine ⟨⟨?_, ?_⟩, ⟨?_, ?_⟩⟩ <;> grind
def S (t : Int) : Rat := sinT (ag (t % 1000000000000000))
def C (t : Int) : Rat := cosT (ag (t % 1000000000000000))
theorem SC_bound (t : Int) : -1 ≤ C t ∧ C t ≤ 1 ∧ -1 ≤ S t ∧ S t ≤ 1 := T_bound _
theorem S_per {a b : Int} (h : a % 1000000000000000 = b % 1000000000000000) : S a = S b := by unfold S; rw [h]
theorem ag_add {a b : Int} (ha : 0 ≤ a) (hb : 0 ≤ b) : ag (a + b) = ag a + ag b := by
  unfold ag
  rw [show (a + b).toNat = a.toNat + b.toNat by omega, Nat.add_mul]
theorem ag_turn : ag 1000000000000000 = 4 * n4 := by decide +kernel
theorem step_lip {C S c s : Rat} (h : c * c + s * s = 1) (hc : 0 ≤ c) (c1 : c ≤ 1) (hs : 0 ≤ s) (C1 : -1 ≤ C) (C2 : C ≤ 1) (S1 : -1 ≤ S) (S2 : S ≤ 1) : -(s + s * s) ≤ S * c + C * s - S ∧ S * c + C * s - S ≤ s + s * s := by
  have q0 : 0 ≤ 1 - c := by grind
  have q1 : 1 - c ≤ s * s := by
    have := Rat.mul_nonneg hc q0
    grind
  obtain ⟨a1, a2⟩ := abs_mul (a := C) (b := s) (A := 1) (B := s) C1 C2 (by grind) (by grind)
  obtain ⟨b1, b2⟩ := abs_mul (a := S) (b := 1 - c) (A := 1) (B := s * s) S1 S2 (by grind) q1
  constructor <;> grind
theorem sinT_lip (n : Nat) : ∀ k : Nat, -((s1 + s1 * s1) * (k : Rat)) ≤ sinT (n + k) - sinT n ∧ sinT (n + k) - sinT n ≤ (s1 + s1 * s1) * (k : Rat)
  | 0 => by
    have : ((0 : Nat) : Rat) = 0 := rfl
    rw [this, Nat.add_zero]; constructor <;> grind
  | k + 1 => by
    obtain ⟨h1, h2⟩ := sinT_lip n k
    obtain ⟨u1, u2, u3, u4⟩ := T_bound (n + k)
    have e : sinT (n + (k + 1)) = sinT (n + k) * c1 + cosT (n + k) * s1 := rfl
    have hc : ((k + 1 : Nat) : Rat) = (k : Rat) + 1 := by push_cast; rfl
    obtain ⟨v1, v2⟩ := step_lip step_sq c1_nonneg (unit_bound step_sq).2.1 s1_nonneg u1 u2 u3 u4
    rw [e, hc]
    generalize sinT (n + k) * c1 + cosT (n + k) * s1 = x at *
    generalize sinT (n + k) = y at *
    generalize sinT n = z at *
    generalize s1 + s1 * s1 = q at *
    generalize (k : Rat) = r at *
    clear e hc u1 u2 u3 u4
    constructor <;> grind
/-- The arc of one unit of arguments. -/
def kap : Rat := 6283185307179587 / 1000000000000000000000000000000
theorem kap_ag {j : Int} (hj : 0 ≤ j) : (s1 + s1 * s1) * ((ag j : Nat) : Rat) ≤ kap * (j : Rat) := by
  have e : ((ag j : Nat) : Rat) = (j : Rat) * 1099511627776 := by
    unfold ag
    rw [Rat.natCast_mul]
    have : ((j.toNat : Nat) : Rat) = (j : Rat) := by
      have := Int.toNat_of_nonneg hj
      rw [← Rat.intCast_natCast, this]
    rw [this]; rfl
  rw [e]
  have k1 : (s1 + s1 * s1) * 1099511627776 ≤ kap := by decide +kernel
  have k2 : (0 : Rat) ≤ (j : Rat) := cle (a := 0) hj
  have := Rat.mul_le_mul_of_nonneg_left k1 k2
  generalize s1 + s1 * s1 = q at *
  generalize (j : Rat) = r at *
  grind
theorem kap_turn {j : Int} (hj : 1000000000000000 ≤ j) : 2 ≤ kap * (j : Rat) := by
  have := cle hj
  have k : kap * 1000000000000000 ≤ kap * (j : Rat) := Rat.mul_le_mul_of_nonneg_left this (by decide +kernel)
  have k2 : 2 ≤ kap * 1000000000000000 := by decide +kernel
  generalize kap * 1000000000000000 = x at *
  generalize kap * (j : Rat) = y at *
  grind
theorem kap_nonneg {j : Int} (hj : 0 ≤ j) : 0 ≤ kap * (j : Rat) := Rat.mul_nonneg (by decide +kernel) (cle (a := 0) hj)
theorem S_lip {a b : Int} (h : a ≤ b) : Nr (S b - S a) (kap * ((b - a : Int) : Rat) + 1 / 10000000000000000000) := by
  have kn := kap_nonneg (j := b - a) (by omega)
  by_cases w : 1000000000000000 ≤ b - a
  · have k := kap_turn w
    have h1 := SC_bound a
    have h2 := SC_bound b
    unfold Nr
    generalize kap * ((b - a : Int) : Rat) = x at *
    generalize S a = y at *
    generalize S b = z at *
    generalize C a = y' at *
    generalize C b = z' at *
    clear kn w h
    constructor <;> grind
  · have hk := kap_ag (j := b - a) (by omega)
    have x0 : 0 ≤ a % 1000000000000000 := by omega
    have x1 : a % 1000000000000000 < 1000000000000000 := by omega
    have hb : b % 1000000000000000 = (a % 1000000000000000 + (b - a)) % 1000000000000000 := by omega
    unfold S
    rw [hb]
    generalize a % 1000000000000000 = x at *
    generalize hj : b - a = j at *
    have j0 : 0 ≤ j := by omega
    clear hb hj h
    have l := sinT_lip (ag x) (ag j)
    rw [← ag_add x0 j0] at l
    by_cases c : x + j < 1000000000000000
    · rw [show (x + j) % 1000000000000000 = x + j by omega]
      unfold Nr
      generalize sinT (ag (x + j)) = p at *
      generalize sinT (ag x) = q at *
      generalize kap * (j : Rat) = r at *
      generalize (s1 + s1 * s1) * ((ag j : Nat) : Rat) = r' at *
      clear c x0 x1 w j0
      constructor <;> grind
    · have t := (turn4 (ag (x + j - 1000000000000000))).1
      rw [← ag_turn, ← ag_add (by omega) (by omega), show x + j - 1000000000000000 + 1000000000000000 = x + j by omega] at t
      rw [show (x + j) % 1000000000000000 = x + j - 1000000000000000 by omega]
      unfold Nr
      generalize sinT (ag (x + j - 1000000000000000)) = p' at *
      generalize sinT (ag (x + j)) = p at *
      generalize sinT (ag x) = q at *
      generalize kap * (j : Rat) = r at *
      generalize (s1 + s1 * s1) * ((ag j : Nat) : Rat) = r' at *
      clear c x0 x1 w j0
      constructor <;> grind
end Go.Proofs.Ytelcegpaakbppaa.Circ
