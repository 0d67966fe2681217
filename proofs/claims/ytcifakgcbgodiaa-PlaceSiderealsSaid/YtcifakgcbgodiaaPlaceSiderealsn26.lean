/- The reference's sine and cosine, by halving and doubling, against the rotation. -/
import Derived.Test.YtcifakgcbgodiaaPlaceSiderealsn2
import Derived.Test.YtcifakgcbgodiaaPlaceSiderealsn25
namespace Go.Proofs.Ytcifakgcbgodiaa.RefT
open Go.RowKit Go.Proofs.YtcifakgcbgodiaaW.PrintWords Go.Proofs.YtcifakgcbgodiaaW.PrintLast Go.Proofs.Ytcifakgcbgodiaa.Opn Go.Proofs.Ytcifakgcbgodiaa.PAll Go.Proofs.Ytcifakgcbgodiaa.Base Go.Proofs.Ytcifakgcbgodiaa.Turn Go.Proofs.Ytcifakgcbgodiaa.Fix Go.Proofs.Ytcifakgcbgodiaa.OctT Go.Proofs.Ytcifakgcbgodiaa.SinT
set_option linter.unusedVariables false
set_option linter.unusedSimpArgs false
/-- A remainder from 0 on. -/
theorem mod_pos {a b : Int} (hb : 0 < b) (hb2 : b ≤ 9223372036854775807) : ephemerisref2_Mod.f a b = some (a % b) := by
  unfold ephemerisref2_Mod.f
  rw [if_neg (by omega)]
  have h1 : a.tmod b = a % b - (if 0 ≤ a ∨ b ∣ a then 0 else b.natAbs) := by
    rw [Int.tmod_eq_emod]
  have h2 := Int.emod_nonneg a (show b ≠ 0 by omega)
  have h3 := Int.emod_lt_of_pos a hb
  by_cases c : 0 ≤ a ∨ b ∣ a
  · rw [if_pos c] at h1
    rw [h1, if_neg (by omega)]; simp
  · rw [if_neg c] at h1
    rw [h1, if_pos (by omega), w64 (by omega) (by omega)]
    congr 1; omega
/-- What is taken of an argument, and its arc. -/
def rX (t : Int) : Int := (t * 7244 + t / 1000000 * 19458077 / 1000) / 4096
def sr (t : Int) : Nat := t.toNat * 268435456
/-- The first sine and verse. -/
def rS0 (t : Int) : Int := rX t - fm (rX t) (fm (rX t) (rX t)) / 6 + fm (fm (rX t) (fm (rX t) (rX t))) (fm (rX t) (rX t)) / 120
def rV0 (t : Int) : Int := fm (rX t) (rX t) / 2 - fm (fm (rX t) (rX t)) (fm (rX t) (rX t)) / 24
def rs (t : Int) : Nat → Int × Int
  | 0 => (rS0 t, rV0 t)
  | j + 1 => (2 * rm (rs t j).1 (1152921504606846976 - (rs t j).2), 2 * rm (rs t j).1 (rs t j).1)
def mm (t : Int) : Nat → Nat
  | 0 => sr t
  | j + 1 => mm t j + mm t j
/-- The arc of an argument. -/
def ag (t : Int) : Nat := t.toNat * 1099511627776
end Go.Proofs.Ytcifakgcbgodiaa.RefT
