/- Sine and cosine of whole arguments, 10 ^ 15 in a turn, out of the rotation: sums, quarters, how they rise and fall, how fast they change. -/
import Derived.Test.YtelcegpaakbppaaAstrolabeStarsn25
namespace Go.Proofs.Ytelcegpaakbppaa.Circ
open Go.Proofs.Ytelcegpaakbppaa.Turn Go.Proofs.Ytelcegpaakbppaa.OctT Go.Proofs.Ytelcegpaakbppaa.SinT Go.Proofs.Ytelcegpaakbppaa.RefT
set_option linter.unusedVariables false
set_option linter.unusedSimpArgs false
theorem n8_le {n : Nat} (h : n ≤ n8) : s1 * (n : Rat) ≤ 786 / 1000 := by
  have h1 : (n : Rat) ≤ (n8 : Rat) := by exact_mod_cast h
  have h2 := Rat.mul_le_mul_of_nonneg_left h1 s1_nonneg
  have h3 : s1 * (n8 : Rat) ≤ 786 / 1000 := by decide +kernel
  grind
theorem sn_nonneg (n : Nat) : 0 ≤ s1 * (n : Rat) := Rat.mul_nonneg s1_nonneg (by exact_mod_cast Nat.zero_le n)
theorem first_quarter {n : Nat} (h : n ≤ n4) : -(1 / 500000000000000000000) ≤ sinT n ∧ -(1 / 500000000000000000000) ≤ cosT n := by
  by_cases c : n ≤ n8
  · obtain ⟨a, b⟩ := rough (n8_le c) (sn_nonneg n)
    constructor <;> grind
  · obtain ⟨a, b⟩ := rough (n := n4 - n) (n8_le (by have := n4_eq; omega)) (sn_nonneg _)
    obtain ⟨c1, c2, c3, c4⟩ := complement (k := n) (m := n4 - n) (by omega)
    clear c h
    generalize sinT n = x1 at *
    generalize cosT n = x2 at *
    generalize sinT (n4 - n) = x3 at *
    generalize cosT (n4 - n) = x4 at *
    constructor <;> grind
theorem second_quarter {n : Nat} (h : n ≤ 2 * n4) : -(1 / 200000000000000000000) ≤ sinT n := by
  by_cases c : n ≤ n4
  · have := (first_quarter c).1
    grind
  · obtain ⟨m, rfl⟩ : ∃ m, n = m + n4 := ⟨n - n4, by omega⟩
    obtain ⟨a1, a2, a3, a4⟩ := quarter m
    have := (first_quarter (n := m) (by omega)).2
    clear c h a2 a3 a4
    generalize sinT (m + n4) = x at *
    generalize cosT m = y at *
    grind
theorem dec_step {C S c s : Rat} (h : c * c + s * s = 1) (hc : 0 ≤ c) (c1 : c ≤ 1) (hs : 0 ≤ s) (hs2 : s ≤ 1 / 100000000000000000000000000) (hC1 : -1 ≤ C) (hC2 : C ≤ 1) (hS : -(1 / 200000000000000000000) ≤ S) : C * c - S * s ≤ C + s * (1 / 100000000000000000000) := by
  have a1 := Rat.mul_le_mul_of_nonneg_left hS hs
  have q0 : 0 ≤ 1 - c := by grind
  have q1 : 1 - c ≤ s * s := by
    have := Rat.mul_nonneg hc q0
    grind
  have a2 := Rat.mul_le_mul_of_nonneg_left hs2 hs
  have a3 := Rat.mul_le_mul_of_nonneg_left hC1 q0
  grind
theorem cosT_dec (n : Nat) : ∀ k, n + k ≤ 2 * n4 → cosT (n + k) ≤ cosT n + s1 * (k : Rat) * (1 / 100000000000000000000)
  | 0, _ => by
    have : ((0 : Nat) : Rat) = 0 := rfl
    rw [this, Nat.add_zero]; grind
  | k + 1, h => by
    have ih := cosT_dec n k (by omega)
    have hS := second_quarter (n := n + k) (by omega)
    obtain ⟨u1, u2, _, _⟩ := T_bound (n + k)
    have e : cosT (n + (k + 1)) = cosT (n + k) * c1 - sinT (n + k) * s1 := rfl
    have hc : ((k + 1 : Nat) : Rat) = (k : Rat) + 1 := by push_cast; rfl
    have := dec_step step_sq c1_nonneg (unit_bound step_sq).2.1 s1_nonneg s1_small u1 u2 hS
    rw [e, hc]
    clear e hc h hS u1 u2
    generalize cosT (n + k) * c1 - sinT (n + k) * s1 = x at *
    generalize cosT (n + k) = y at *
    generalize cosT n = z at *
    generalize (k : Rat) = r at *
    generalize s1 = q at *
    grind
theorem cosT_mono {n m : Nat} (h : n ≤ m) (h2 : m ≤ 2 * n4) : cosT m ≤ cosT n + 1 / 10000000000000000000 := by
  have := cosT_dec n (m - n) (by omega)
  rw [show n + (m - n) = m by omega] at this
  have k1 : s1 * ((m - n : Nat) : Rat) ≤ s1 * ((2 * n4 : Nat) : Rat) := Rat.mul_le_mul_of_nonneg_left (by exact_mod_cast (show m - n ≤ 2 * n4 by omega)) s1_nonneg
  have k2 : s1 * ((2 * n4 : Nat) : Rat) ≤ 4 := by decide +kernel
  generalize s1 * ((m - n : Nat) : Rat) = x at *
  generalize s1 * ((2 * n4 : Nat) : Rat) = y at *
  generalize cosT m = z at *
  generalize cosT n = w at *
  clear h h2
  grind
def S (t : Int) : Rat := sinT (ag (t % 1000000000000000))
def C (t : Int) : Rat := cosT (ag (t % 1000000000000000))
end Go.Proofs.Ytelcegpaakbppaa.Circ
