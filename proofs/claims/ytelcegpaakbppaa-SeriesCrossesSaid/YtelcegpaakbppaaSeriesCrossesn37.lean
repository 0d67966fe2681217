/- SumErr and Bound of sums of terms. -/
import Derived.Test.YtelcegpaakbppaaSeriesCrossesn3
import Derived.Test.YtelcegpaakbppaaSeriesCrossesn10
import Derived.Test.YtelcegpaakbppaaSeriesCrossesn36
namespace Go.Proofs.Ytelcegpaakbppaa.SumsE
open Go.RowKit Go.Proofs.YtelcegpaakbppaaW.PrintWords Go.Proofs.YtelcegpaakbppaaW.PrintLast Go.Proofs.YtelcegpaakbppaaW.PrintMore Go.Proofs.Ytelcegpaakbppaa.Opn Go.Proofs.Ytelcegpaakbppaa.PAll Go.Proofs.Ytelcegpaakbppaa.Base Go.Proofs.Ytelcegpaakbppaa.SumsT Go.Proofs.Ytelcegpaakbppaa.Vals
set_option linter.unusedVariables false
set_option linter.unusedSimpArgs false
theorem sumErr_loop (l : List S53) (hl : l.length ≤ 40) : ∀ (t : List S53) (i : Int), 0 ≤ i → l.drop i.toNat = t → Ev (fun k => ephemerisref2_SumErr.l0 k l (l.length : Int) i) (ts t) := by
 intro t
 induction t with
 | nil =>
  intro i h0 hd
  have hle := drop_nil h0 hd
  exact ev_some 1 fun k => by rw [ephemerisref2_SumErr.l0, if_neg (by omega)]; rfl
 | cons s t ih =>
  intro i h0 hd
  obtain ⟨hlt, hs, ht⟩ := drop_cons z53 h0 hd
  have hs' : rd_T53 l i = s := hs
  have a9 : wrap64 (i + 1) = i + 1 := w64 (by omega) (by omega)
  have hun : ∀ k, ephemerisref2_SumErr.l0 (k + 1) l (l.length : Int) i = (if bad s then some 3 else ephemerisref2_SumErr.l0 k l (l.length : Int) (i + 1)) := by
   intro k
   rw [ephemerisref2_SumErr.l0, if_pos hlt, if_pos h0, if_pos hlt, hs', a9]
   by_cases c1 : s.f0 > 1000000000
   ·rw [if_pos c1, if_pos (by unfold bad; omega)]
   rw [if_neg c1]
   by_cases c2 : s.f0 < -1000000000
   ·rw [if_pos c2, if_pos (by unfold bad; omega)]
   rw [if_neg c2]
   by_cases c3 : s.f1 < 0
   ·rw [if_pos c3, if_pos (by unfold bad; omega)]
   rw [if_neg c3]
   by_cases c4 : s.f1 > 999999999
   ·rw [if_pos c4, if_pos (by unfold bad; omega)]
   rw [if_neg c4]
   by_cases c5 : s.f2 > 4000000000000000
   ·rw [if_pos c5, if_pos (by unfold bad; omega)]
   rw [if_neg c5]
   by_cases c6 : s.f2 < -4000000000000000
   ·rw [if_pos c6, if_pos (by unfold bad; omega)]
   rw [if_neg c6, if_neg (by unfold bad; omega)]
  unfold ts
  by_cases c : bad s
  ·rw [if_pos c]
   exact ev_some 1 fun k => by rw [hun, if_pos c]
  ·rw [if_neg c]
   exact ev_step 1 (fun k => by rw [hun, if_neg c]) (ih (i + 1) (by omega) ht)
theorem sumErr_ev (a b : Int) (l : List S53) (d : Int) : Ev (fun k => ephemerisref2_SumErr.f k a b l d) (se a b l d) := by
 unfold ephemerisref2_SumErr.f se
 by_cases c1 : (l.length : Int) > 40
 ·simp only [if_pos c1]; exact ⟨0, fun _ _ => rfl⟩
 simp only [if_neg c1]
 by_cases c2 : a > 1000000000
 ·rw [if_pos (show hb a b d by unfold hb; omega)]
  exact ev_some 1 fun k => by rw [if_pos c2, ephemerisref2_SumErr.j0, if_pos rfl]
 by_cases c3 : a < -1000000000
 ·rw [if_pos (show hb a b d by unfold hb; omega)]
  exact ev_some 1 fun k => by rw [if_neg c2, if_pos c3, ephemerisref2_SumErr.j0, if_pos rfl]
 by_cases c4 : b > 4000000000000000
 ·rw [if_pos (show hb a b d by unfold hb; omega)]
  exact ev_some 1 fun k => by rw [if_neg c2, if_neg c3, if_pos c4, ephemerisref2_SumErr.j0, if_pos rfl]
 by_cases c5 : b < -4000000000000000
 ·rw [if_pos (show hb a b d by unfold hb; omega)]
  exact ev_some 1 fun k => by rw [if_neg c2, if_neg c3, if_neg c4, if_pos c5, ephemerisref2_SumErr.j0, if_pos rfl]
 by_cases c6 : d < 0
 ·rw [if_pos (show hb a b d by unfold hb; omega)]
  exact ev_some 1 fun k => by rw [if_neg c2, if_neg c3, if_neg c4, if_neg c5, if_pos c6, ephemerisref2_SumErr.j0, if_pos rfl]
 by_cases c7 : d > 100000000
 ·rw [if_pos (show hb a b d by unfold hb; omega)]
  exact ev_some 1 fun k => by rw [if_neg c2, if_neg c3, if_neg c4, if_neg c5, if_neg c6, decide_eq_true c7, ephemerisref2_SumErr.j0, if_pos rfl]
 ·rw [if_neg (show ¬ hb a b d by unfold hb; omega)]
  exact ev_step 1 (fun k => by rw [if_neg c2, if_neg c3, if_neg c4, if_neg c5, if_neg c6, decide_eq_false c7, ephemerisref2_SumErr.j0, if_neg (by decide)]) (sumErr_loop l (by omega) l 0 (by omega) rfl)
def bs : Int → List S53 → Int
 | a, [] => a
 | a, x :: t => bs (wrap64 (a + qb x)) t
end Go.Proofs.Ytelcegpaakbppaa.SumsE
