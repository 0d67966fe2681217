/- The day of 1 January of a year: the program's and the reference's. -/
import Derived.Test.YtmahlfjnejbcnaaTopSeasonsn35
namespace Go.Proofs.Ytmahlfjnejbcnaa.YearT
open Go Go.RowKit YtmahlfjnejbcnaaW.PrintWords YtmahlfjnejbcnaaW.PrintLast YtmahlfjnejbcnaaW.PrintMore Opn PAll Base SinT PhaseT
set_option linter.unusedVariables false
set_option linter.unusedSimpArgs false
def ny (y : Int) : Int := 365 * (y - 1) + (y - 1) / 4 - (y - 1) / 100 + (y - 1) / 400 + 1
theorem fl {Y d : Int} (hd : d = 4 ∨ d = 100 ∨ d = 400) : (Y.tmod d < 0 ∧ Y.tdiv d - 1 = Y / d) ∨ (¬ Y.tmod d < 0 ∧ Y.tdiv d = Y / d) := by
 rcases Int.lt_or_le Y 0 with c | c
 ·have e1 : Y.tdiv d = -((-Y) / d) := by rw [← Int.tdiv_eq_ediv_of_nonneg (by omega), Int.neg_tdiv, Int.neg_neg]
  have e2 : Y.tmod d = -((-Y) % d) := by rw [← Int.tmod_eq_emod_of_nonneg (by omega), Int.neg_tmod, Int.neg_neg]
  rw [e1, e2]
  rcases hd with rfl | rfl | rfl <;> omega
 ·rw [Int.tdiv_eq_ediv_of_nonneg c, Int.tmod_eq_emod_of_nonneg c]
  rcases hd with rfl | rfl | rfl <;> omega
theorem newYear_at (k : Nat) {y : Int} (h1 : -10000 ≤ y) (h2 : y ≤ 10000) : season_newYear.f k y = some (ny y) := by
 have f4 := fl (Y := y - 1) (d := 4) (by decide)
 have f100 := fl (Y := y - 1) (d := 100) (by decide)
 have f400 := fl (Y := y - 1) (d := 400) (by decide)
 unfold season_newYear.f
 simp only [Sx.oif_eq, iw, decide_eq_true_eq]
 rw [w64 (x := y - 1) (by omega) (by omega)]
 unfold ny
 rcases f4 with ⟨h, e4⟩ | ⟨h, e4⟩ <;> simp only [h, if_true, if_false] <;> clear h <;> rcases f100 with ⟨h, e100⟩ | ⟨h, e100⟩ <;> simp only [h, if_true, if_false] <;> clear h <;> rcases f400 with ⟨h, e400⟩ | ⟨h, e400⟩ <;> simp only [h, if_true, if_false] <;> clear h <;>
  (generalize (y - 1).tdiv 4 = a at *; generalize (y - 1).tdiv 100 = b at *; generalize (y - 1).tdiv 400 = c at *; congr 1; unfold wrap64; omega)
end Go.Proofs.Ytmahlfjnejbcnaa.YearT
