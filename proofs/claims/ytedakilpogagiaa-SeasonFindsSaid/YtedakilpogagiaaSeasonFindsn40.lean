/- The day of 1 January of a year: the program's and the reference's. -/
import Derived.Test.YtedakilpogagiaaSeasonFindsn19
import Derived.Test.YtedakilpogagiaaSeasonFindsn38
namespace Go.Proofs.Ytedakilpogagiaa.YearT
open Go Go.RowKit YtedakilpogagiaaW.PrintWords YtedakilpogagiaaW.PrintLast YtedakilpogagiaaW.PrintMore PAll Base SinT PhaseT
set_option linter.unusedVariables false
set_option linter.unusedSimpArgs false
def ny (y : Int) : Int := 365 * (y - 1) + (y - 1) / 4 - (y - 1) / 100 + (y - 1) / 400 + 1
theorem fl {Y d : Int} (hd : d = 4 ∨ d = 100 ∨ d = 400) : (Y.tmod d < 0 ∧ Y.tdiv d - 1 = Y / d) ∨ (¬ Y.tmod d < 0 ∧ Y.tdiv d = Y / d) := by
 rcases Int.lt_or_le Y 0 with c | c
 ·have e1 : Y.tdiv d = -((-Y) / d) := by rw [← Int.tdiv_eq_ediv_of_nonneg (by omega), Int.neg_tdiv, Int.neg_neg]
  have e2 : Y.tmod d = -((-Y) % d) := by rw [← Int.tmod_eq_emod_of_nonneg (by omega), Int.neg_tmod, Int.neg_neg]
  rw [e1, e2]
  rcases hd with rfl | rfl | rfl <;> omega
 ·rw [Int.tdiv_eq_ediv_of_nonneg c, Int.tmod_eq_emod_of_nonneg c]
  rcases hd with rfl | rfl | rfl <;> omega
theorem newYear_at (k : Nat) {y : Int} (h1 : -10000 ≤ y) (h2 : y ≤ 10000) : season_newYear.f k y = some (ny y) := by
 have f4 := fl (Y := y - 1) (d := 4) (by decide)
 have f100 := fl (Y := y - 1) (d := 100) (by decide)
 have f400 := fl (Y := y - 1) (d := 400) (by decide)
 unfold season_newYear.f
 simp only [Sx.oif_eq, iw, decide_eq_true_eq]
 rw [w64 (x := y - 1) (by omega) (by omega)]
 unfold ny
 rcases f4 with ⟨h, e4⟩ | ⟨h, e4⟩ <;> simp only [h, if_true, if_false] <;> clear h <;> rcases f100 with ⟨h, e100⟩ | ⟨h, e100⟩ <;> simp only [h, if_true, if_false] <;> clear h <;> rcases f400 with ⟨h, e400⟩ | ⟨h, e400⟩ <;> simp only [h, if_true, if_false] <;> clear h <;>
  (generalize (y - 1).tdiv 4 = a at *; generalize (y - 1).tdiv 100 = b at *; generalize (y - 1).tdiv 400 = c at *; congr 1; unfold wrap64; omega)
theorem l2_ev {x0 : Int} (hx : x0 ≤ 400) : ∀ (n : Nat) (y D : Int), (x0 - y).toNat ≤ n → 1 ≤ y → y ≤ x0 → -2000000000000 + 366 * (n : Int) ≤ D → D ≤ 2000000000000 - 366 * (n : Int) → Ev (fun k => ephemerisref2_NewYear.l2 k x0 D y) (D + ny x0 - ny y) := by
 intro n
 induction n with
 | zero =>
  intro y D hn h1 h2 _ _
  have e : y = x0 := by omega
  subst e
  exact ev_some 1 fun k => by rw [ephemerisref2_NewYear.l2, if_neg (by omega)]; congr 1; omega
 | succ n ih =>
  intro y D hn h1 h2 d1 d2
  by_cases c : y < x0
  ·have st : ∀ k, ephemerisref2_NewYear.l2 (k + 1) x0 D y = ephemerisref2_NewYear.l2 k x0 (D + (ny (y + 1) - ny y)) (y + 1) := by
    intro k
    rw [ephemerisref2_NewYear.l2, if_pos c, Int.tmod_eq_emod_of_nonneg (by omega), Int.tmod_eq_emod_of_nonneg (by omega), Int.tmod_eq_emod_of_nonneg (by omega), w64 (x := y + 1) (by omega) (by omega), w64 (x := D + 365) (by omega) (by omega), w64 (x := D + 365 + 1) (by omega) (by omega)]
    by_cases c4 : y % 4 = 0
    ·rw [if_pos c4]
     by_cases c1 : y % 100 = 0
     ·rw [if_pos c1]
      by_cases c2 : y % 400 = 0
      ·rw [if_pos c2, show D + 365 + 1 = D + (ny (y + 1) - ny y) by unfold ny; omega]
      ·rw [if_neg c2, show D + 365 = D + (ny (y + 1) - ny y) by unfold ny; omega]
     ·rw [if_neg c1, show D + 365 + 1 = D + (ny (y + 1) - ny y) by unfold ny; omega]
    ·rw [if_neg c4, if_neg (by omega), show D + 365 = D + (ny (y + 1) - ny y) by unfold ny; omega]
   have b : 365 ≤ ny (y + 1) - ny y ∧ ny (y + 1) - ny y ≤ 366 := by unfold ny; omega
   have r := ih (y + 1) (D + (ny (y + 1) - ny y)) (by omega) (by omega) (by omega) (by omega) (by omega)
   rw [show D + (ny (y + 1) - ny y) + ny x0 - ny (y + 1) = D + ny x0 - ny y by omega] at r
   exact ev_step 1 st r
  ·have e : y = x0 := by omega
   subst e
   exact ev_some 1 fun k => by rw [ephemerisref2_NewYear.l2, if_neg (by omega)]; congr 1; omega
theorem l1_ev : ∀ (n : Nat) (x0 D : Int), (1 - x0).toNat ≤ n → x0 ≤ 400 → -1000000000000 + 146097 * (n : Int) ≤ D → D ≤ 1000000000000 - 146097 * (n : Int) → Ev (fun k => ephemerisref2_NewYear.l1 k x0 D) (D + ny x0 - 1) := by
 intro n
 induction n with
 | zero =>
  intro x0 D hn h d1 d2
  have r := l2_ev h 400 1 D (by omega) (by omega) (by omega) (by omega) (by omega)
  exact ev_step 1 (fun k => by rw [ephemerisref2_NewYear.l1, if_neg (by omega)]) r
 | succ n ih =>
  intro x0 D hn h d1 d2
  by_cases c : x0 < 1
  ·by_cases b : -9000000000000000000 ≤ x0
   ·have r := ih (x0 + 400) (D - 146097) (by omega) (by omega) (by omega) (by omega)
    rw [show D - 146097 + ny (x0 + 400) - 1 = D + ny x0 - 1 by unfold ny; omega] at r
    exact ev_step 1 (fun k => by rw [ephemerisref2_NewYear.l1, if_pos c, w64 (x := x0 + 400) (by omega) (by omega), w64 (x := D - 146097) (by omega) (by omega)]) r
   ·omega
  ·have r := l2_ev h 400 1 D (by omega) (by omega) (by omega) (by omega) (by omega)
   exact ev_step 1 (fun k => by rw [ephemerisref2_NewYear.l1, if_neg (by omega)]) r
theorem l0_ev : ∀ (n : Nat) (x0 D : Int), (x0 - 400).toNat ≤ n → -10000 ≤ x0 → x0 ≤ 10000 → -900000000000 + 146097 * (n : Int) ≤ D → D ≤ 900000000000 - 146097 * (n : Int) → n ≤ 100000 → Ev (fun k => ephemerisref2_NewYear.l0 k x0 D) (D + ny x0 - 1) := by
 intro n
 induction n with
 | zero =>
  intro x0 D hn b1 b2 d1 d2 _
  have r := l1_ev 20000 x0 D (by omega) (by omega) (by omega) (by omega)
  exact ev_step 1 (fun k => by rw [ephemerisref2_NewYear.l0, if_neg (by omega)]) r
 | succ n ih =>
  intro x0 D hn b1 b2 d1 d2 hn2
  by_cases c : x0 > 400
  ·have r := ih (x0 - 400) (D + 146097) (by omega) (by omega) (by omega) (by omega) (by omega) (by omega)
   rw [show D + 146097 + ny (x0 - 400) - 1 = D + ny x0 - 1 by unfold ny; omega] at r
   exact ev_step 1 (fun k => by rw [ephemerisref2_NewYear.l0, if_pos c, w64 (x := x0 - 400) (by omega) (by omega), w64 (x := D + 146097) (by omega) (by omega)]) r
  ·have r := l1_ev 20000 x0 D (by omega) (by omega) (by omega) (by omega)
   exact ev_step 1 (fun k => by rw [ephemerisref2_NewYear.l0, if_neg c]) r
theorem refYear_ev {y : Int} (h1 : -10000 ≤ y) (h2 : y ≤ 10000) : Ev (fun k => ephemerisref2_NewYear.f k y) (ny y) := by
 unfold ephemerisref2_NewYear.f
 have r := l0_ev 10000 y 1 (by omega) h1 h2 (by omega) (by omega) (by omega)
 rw [show 1 + ny y - 1 = ny y by omega] at r
 exact r
end Go.Proofs.Ytedakilpogagiaa.YearT
