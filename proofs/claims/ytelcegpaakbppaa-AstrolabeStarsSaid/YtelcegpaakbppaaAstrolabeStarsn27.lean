/- Sines and cosines of whole angles in known ranges. -/
import Derived.Test.YtelcegpaakbppaaAstrolabeStarsn24
import Derived.Test.YtelcegpaakbppaaAstrolabeStarsn25
import Derived.Test.YtelcegpaakbppaaAstrolabeStarsn26
namespace Go.Proofs.Ytelcegpaakbppaa.AngT
open Go Go.RowKit Go.Proofs.YtelcegpaakbppaaW.PrintWords Go.Proofs.Ytelcegpaakbppaa.PAll Go.Proofs.Ytelcegpaakbppaa.Base Go.Proofs.Ytelcegpaakbppaa.Turn Go.Proofs.Ytelcegpaakbppaa.OctT Go.Proofs.Ytelcegpaakbppaa.SinT Go.Proofs.Ytelcegpaakbppaa.RefT Go.Proofs.Ytelcegpaakbppaa.Circ
set_option linter.unusedVariables false
set_option linter.unusedSimpArgs false
theorem ag_st {r : Int} (h0 : 0 ≤ r) : ag (r * 1000000) = st r := by
  unfold ag st
  rw [show (r * 1000000).toNat = r.toNat * 1000000 by omega, Nat.mul_assoc]
/-- Three quarters more. -/
theorem three (m : Nat) : sinT m - cosT (m + 3 * n4) ≤ 1 / 100000000000000000000 ∧ cosT (m + 3 * n4) - sinT m ≤ 1 / 100000000000000000000 := by
  obtain ⟨a1, a2, a3, a4⟩ := quarter m
  obtain ⟨b1, b2, b3, b4⟩ := quarter (m + n4)
  obtain ⟨c1, c2, c3, c4⟩ := quarter (m + n4 + n4)
  rw [show m + 3 * n4 = m + n4 + n4 + n4 by omega]
  generalize sinT m = x0 at *
  generalize cosT m = y0 at *
  generalize sinT (m + n4) = x1 at *
  generalize cosT (m + n4) = y1 at *
  generalize sinT (m + n4 + n4) = x2 at *
  generalize cosT (m + n4 + n4) = y2 at *
  generalize cosT (m + n4 + n4 + n4) = y3 at *
  constructor <;> grind
theorem cos_near {r : Int} (h0 : 0 ≤ r) (h1 : r < 1000000000) : sinT (st ((r + 250000000) % 1000000000)) - cosT (st r) ≤ 1 / 100000000000000000000 ∧ cosT (st r) - sinT (st ((r + 250000000) % 1000000000)) ≤ 1 / 100000000000000000000 := by
  by_cases c : r < 750000000
  · rw [st_quarter (r := (r + 250000000) % 1000000000) (by omega) 1 r h0 (by omega), Nat.one_mul]
    obtain ⟨a1, a2, _, _⟩ := quarter (st r)
    generalize sinT (st r + n4) = x at *
    generalize cosT (st r) = y at *
    constructor <;> grind
  · rw [st_quarter (r := r) h0 3 (r - 750000000) (by omega) (by omega), show (r + 250000000) % 1000000000 = r - 750000000 by omega]
    exact three _
/-- minus the cosine of a quarter turn more -/
theorem back (m : Nat) : (sinT (m + 3 * n4) + cosT m ≤ 1 / 100000000000000000000 ∧ -(1 / 100000000000000000000) ≤ sinT (m + 3 * n4) + cosT m) ∧ (cosT (m + 3 * n4) - sinT m ≤ 1 / 100000000000000000000 ∧ -(1 / 100000000000000000000) ≤ cosT (m + 3 * n4) - sinT m) := by
  obtain ⟨a1, a2, a3, a4⟩ := quarter m
  obtain ⟨b1, b2, b3, b4⟩ := quarter (m + n4)
  obtain ⟨c1, c2, c3, c4⟩ := quarter (m + n4 + n4)
  rw [show m + 3 * n4 = m + n4 + n4 + n4 by omega]
  generalize sinT m = x0 at *
  generalize cosT m = y0 at *
  generalize sinT (m + n4) = x1 at *
  generalize cosT (m + n4) = y1 at *
  generalize sinT (m + n4 + n4) = x2 at *
  generalize cosT (m + n4 + n4) = y2 at *
  generalize cosT (m + n4 + n4 + n4) = y3 at *
  generalize sinT (m + n4 + n4 + n4) = x3 at *
  refine ⟨⟨?_, ?_⟩, ⟨?_, ?_⟩⟩ <;> grind
theorem st_le {a b : Int} (h : a ≤ b) : st a ≤ st b := by
  unfold st
  exact Nat.mul_le_mul_right _ (by omega)
theorem st_n4 {a : Int} (h : a ≤ 250000000) : st a ≤ n4 := by
  rw [n4_val]; unfold st
  exact Nat.mul_le_mul_right _ (by omega)
theorem st_2n4 {a : Int} (h : a ≤ 500000000) : st a ≤ 2 * n4 := by
  rw [n4_val]; unfold st
  have := Nat.mul_le_mul_right 1099511627776000000 (show a.toNat ≤ 500000000 by omega)
  omega
theorem y55 : cosP (s1 * ((55000000 * 1099511627776000000 : Nat) : Rat)) 20 ≤ 941 / 1000 ∧ s1 * ((55000000 * 1099511627776000000 : Nat) : Rat) ≤ 1 := by decide +kernel
theorem cos55 : cosT (st 55000000) ≤ 9412 / 10000 := by
  have e : st 55000000 = 55000000 * 1099511627776000000 := rfl
  obtain ⟨h1, _, _, _⟩ := taylor20 (n := st 55000000) (by rw [e]; exact y55.2) (sn_nonneg _)
  rw [e] at *
  have h2 := y55.1
  generalize cosT (55000000 * 1099511627776000000) = x at *
  generalize cosP (s1 * ((55000000 * 1099511627776000000 : Nat) : Rat)) 20 = y at *
  rw [u_eq] at h1
  grind
/-- declinations from -195000000 on -/
theorem dec_low {d : Int} (h0 : -195000000 ≤ d) (h1 : d ≤ 250000000) : -(9413 / 10000) ≤ sinT (st (d % 1000000000)) ∧ -(1 / 1000000000000) ≤ cosT (st (d % 1000000000)) := by
  have m := cosT_mono (n := st 55000000) (m := st (d + 250000000)) (st_le (by omega)) (st_2n4 (by omega))
  have c := cos55
  rcases Int.lt_or_le d 0 with n | n
  · have e : st (d % 1000000000) = st (d + 250000000) + 3 * n4 := st_quarter (by omega) 3 (d + 250000000) (by omega) (by omega)
    obtain ⟨⟨b1, b2⟩, ⟨b3, b4⟩⟩ := back (st (d + 250000000))
    obtain ⟨f1, f2⟩ := first_quarter (n := st (d + 250000000)) (st_n4 (by omega))
    rw [e]
    generalize sinT (st (d + 250000000) + 3 * n4) = x at *
    generalize cosT (st (d + 250000000) + 3 * n4) = y at *
    generalize sinT (st (d + 250000000)) = z at *
    generalize cosT (st (d + 250000000)) = w at *
    generalize cosT (st 55000000) = v at *
    constructor <;> grind
  · rw [show d % 1000000000 = d by omega]
    obtain ⟨f1, f2⟩ := first_quarter (n := st d) (st_n4 (by omega))
    generalize sinT (st d) = z at *
    generalize cosT (st d) = w at *
    constructor <;> grind
theorem half_at (c : Int) : c - 1 ≤ 2 * Int.tdiv c 2 ∧ 2 * Int.tdiv c 2 ≤ c + 1 := by
  rcases Int.lt_or_le c 0 with h | h
  · have e : Int.tdiv c 2 = -Int.tdiv (-c) 2 := by rw [Int.neg_tdiv]; omega
    rw [e, Int.tdiv_eq_ediv_of_nonneg (by omega)]
    omega
  · rw [Int.tdiv_eq_ediv_of_nonneg h]
    omega
/-- the program's interval of a sine in a range above -1 -/
theorem lo_un {l h : Int} {w : Rat} (b : Box l h w) (hw : -(99 / 100) ≤ w) : mx (-1000000000) l = l := by
  obtain ⟨b0, b1, b2⟩ := b
  have : -1000000000 ≤ l := by
    refine int_of_rat ?_
    have b0 : (h : Rat) - (l : Rat) = 3 := by have : ((h - l : Int) : Rat) = ((3 : Int) : Rat) := by rw [b0]
                                              push_cast at this; exact this
    push_cast
    grind
  unfold mx
  split <;> omega
end Go.Proofs.Ytelcegpaakbppaa.AngT
