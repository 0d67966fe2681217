/- The reference's sine and cosine, by halving and doubling, against the rotation. -/
import Derived.Test.YtedakilpogagiaaSharpenEarliersn6
import Derived.Test.YtedakilpogagiaaSharpenEarliersn26
namespace Go.Proofs.Ytedakilpogagiaa.RefT
open Go.RowKit YtedakilpogagiaaW.PrintWords YtedakilpogagiaaW.PrintLast Opn PAll Base Turn Fix OctT
set_option linter.unusedVariables false
set_option linter.unusedSimpArgs false
def rX (t : Int) : Int := (t * 7244 + t / 1000000 * 19458077 / 1000) / 4096
def sr (t : Int) : Nat := t.toNat * 268435456
def rS0 (t : Int) : Int := rX t - fm (rX t) (fm (rX t) (rX t)) / 6 + fm (fm (rX t) (fm (rX t) (rX t))) (fm (rX t) (rX t)) / 120
def rV0 (t : Int) : Int := fm (rX t) (rX t) / 2 - fm (fm (rX t) (rX t)) (fm (rX t) (rX t)) / 24
def rs (t : Int) : Nat → Int × Int
 | 0 => (rS0 t, rV0 t)
 | j + 1 => (2 * rm (rs t j).1 (1152921504606846976 - (rs t j).2), 2 * rm (rs t j).1 (rs t j).1)
def mm (t : Int) : Nat → Nat
 | 0 => sr t
 | j + 1 => mm t j + mm t j
def ag (t : Int) : Nat := t.toNat * 1099511627776
end Go.Proofs.Ytedakilpogagiaa.RefT
