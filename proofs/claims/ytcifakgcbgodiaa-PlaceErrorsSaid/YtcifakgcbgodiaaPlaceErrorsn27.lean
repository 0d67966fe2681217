/- The reference's sine and cosine, by halving and doubling, against the rotation. -/
import Derived.Test.YtcifakgcbgodiaaPlaceErrorsn2
import Derived.Test.YtcifakgcbgodiaaPlaceErrorsn26
namespace Go.Proofs.Ytcifakgcbgodiaa.RefT
open Go.RowKit Go.Proofs.YtcifakgcbgodiaaW.PrintWords Go.Proofs.YtcifakgcbgodiaaW.PrintLast Go.Proofs.Ytcifakgcbgodiaa.Opn Go.Proofs.Ytcifakgcbgodiaa.PAll Go.Proofs.Ytcifakgcbgodiaa.Base Go.Proofs.Ytcifakgcbgodiaa.Turn Go.Proofs.Ytcifakgcbgodiaa.Fix Go.Proofs.Ytcifakgcbgodiaa.Oct Go.Proofs.Ytcifakgcbgodiaa.OctT Go.Proofs.Ytcifakgcbgodiaa.SinT
set_option linter.unusedVariables false
set_option linter.unusedSimpArgs false
/-- What is taken of an argument, and its arc. -/
def rX (t : Int) : Int := (t * 7244 + t / 1000000 * 19458077 / 1000) / 4096
def sr (t : Int) : Nat := t.toNat * 268435456
/-- The first sine and verse. -/
def rS0 (t : Int) : Int := rX t - fm (rX t) (fm (rX t) (rX t)) / 6 + fm (fm (rX t) (fm (rX t) (rX t))) (fm (rX t) (rX t)) / 120
def rV0 (t : Int) : Int := fm (rX t) (rX t) / 2 - fm (fm (rX t) (rX t)) (fm (rX t) (rX t)) / 24
theorem int_of_rat {s : Int} {b : Int} (h : (s : Rat) ≤ (b : Rat)) : s ≤ b := by
  rcases (show s ≤ b ∨ b + 1 ≤ s by omega) with h1 | h1
  · exact h1
  · have := cle h1
    push_cast at this
    grind
def rs (t : Int) : Nat → Int × Int
  | 0 => (rS0 t, rV0 t)
  | j + 1 => (2 * rm (rs t j).1 (1152921504606846976 - (rs t j).2), 2 * rm (rs t j).1 (rs t j).1)
def mm (t : Int) : Nat → Nat
  | 0 => sr t
  | j + 1 => mm t j + mm t j
/-- The arc of an argument. -/
def ag (t : Int) : Nat := t.toNat * 1099511627776
end Go.Proofs.Ytcifakgcbgodiaa.RefT
