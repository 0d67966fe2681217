/- Scale, and sums of terms: the program's intervals hold the reference's sums. -/
import Derived.Test.YtedakilpogagiaaDialLinesn28
import Derived.Test.YtedakilpogagiaaDialLinesn29
namespace Go.Proofs.Ytedakilpogagiaa.Vals
open Go.RowKit Go.Proofs.YtedakilpogagiaaW.PrintWords Go.Proofs.YtedakilpogagiaaW.PrintLast Go.Proofs.YtedakilpogagiaaW.PrintMore Go.Proofs.Ytedakilpogagiaa.Opn Go.Proofs.Ytedakilpogagiaa.PAll Go.Proofs.Ytedakilpogagiaa.Base Go.Proofs.Ytedakilpogagiaa.Turn Go.Proofs.Ytedakilpogagiaa.Fix Go.Proofs.Ytedakilpogagiaa.Oct Go.Proofs.Ytedakilpogagiaa.OctT Go.Proofs.Ytedakilpogagiaa.SinT Go.Proofs.Ytedakilpogagiaa.RefT Go.Proofs.Ytedakilpogagiaa.Circ Go.Proofs.Ytedakilpogagiaa.Over Go.Proofs.Ytedakilpogagiaa.Units Go.Proofs.Ytedakilpogagiaa.Args Go.Proofs.Ytedakilpogagiaa.SumsT
set_option linter.unusedVariables false
set_option linter.unusedSimpArgs false
theorem split_div (n num : Int) {den : Int} (hd : 0 < den) : n / den * num + (n - n / den * den) * num / den = n * num / den := by
 have e : n * num = (n - n / den * den) * num + n / den * num * den := by
  rw [Int.sub_mul]
  have : n / den * den * num = n / den * num * den := by rw [Int.mul_assoc, Int.mul_comm den num, Int.mul_assoc]
  rw [this]; omega
 rw [e, Int.add_mul_ediv_right _ _ (by omega)]
 omega
theorem abs_at (q : Int) (h1 : -2000000000000000000 ≤ q) (h2 : q ≤ 2000000000000000000) : interval_abs.f q = some (if q < 0 then -q else q) := by
 unfold interval_abs.f
 by_cases c : q < 0
 ·rw [if_pos c, if_pos c, w64 (by omega) (by omega)]
 ·rw [if_neg c, if_neg c]
theorem out_ok {t : Int} (h1 : -1000000000000000000 ≤ t) (h2 : t ≤ 1000000000000000000) : interval_out.f t = some false := by
 unfold interval_out.f
 rw [if_neg (by omega)]
 exact congrArg some (decide_eq_false (by omega))
theorem ipart_ev {n num den : Int} (n1 : -1000000000000000000 ≤ n) (n2 : n ≤ 1000000000000000000) (m1 : 0 ≤ num) (m2 : num ≤ 1000000000) (d1 : 1 ≤ den) (d2 : den ≤ 1000000000) (r1 : -1000000000000000000 ≤ n * num / den) (r2 : n * num / den ≤ 1000000000000000000) : Ev (fun k => interval_part.f k n num den) (n * num / den, true) := by
 have s := split_div n num (den := den) (by omega)
 have f1 := floor_pos (a := n) (b := den) (by omega) (by omega)
 have q1 : n / den * den ≤ n := Int.ediv_mul_le _ (by omega)
 have q2 : n < n / den * den + den := by
  have := Int.lt_ediv_add_one_mul_self n (show 0 < den by omega)
  rw [Int.add_mul, Int.one_mul] at this
  exact this
 have hq1 : n / den ≤ 1000000000000000000 := by
  rcases Int.lt_or_le n 0 with c | c
  ·have := Int.ediv_neg_of_neg_of_pos c (show 0 < den by omega); omega
  ·have := Int.ediv_le_self den c; omega
 have hq2 : -1000000000000000000 ≤ n / den := by
  rcases Int.lt_or_le (n / den) (-1000000000000000000) with c | c
  ·have : n / den * den ≤ n / den * 1 := by
    have := Int.mul_le_mul_of_nonneg_left d1 (show 0 ≤ -(n / den) by omega)
    rw [Int.neg_mul, Int.neg_mul] at this; omega
   have k : (n / den + 1) * den ≤ (n / den + 1) * 1 := by
    have := Int.mul_le_mul_of_nonneg_left d1 (show 0 ≤ -(n / den + 1) by omega)
    rw [Int.neg_mul, Int.neg_mul] at this; omega
   rw [Int.add_mul] at k
   omega
  ·exact c
 obtain ⟨p1, p2⟩ := prod_in (a := n - n / den * den) (A := 1000000000) (b := num) (B := 1000000000) (by omega) (by omega) m1 m2
 have f2 := floor_pos (a := (n - n / den * den) * num) (b := den) (by omega) (by omega)
 have t1 : 0 ≤ (n - n / den * den) * num / den := Int.ediv_nonneg p1 (by omega)
 have t2 : (n - n / den * den) * num / den ≤ num := by
  refine Int.ediv_le_of_le_mul (by omega) ?_
  rw [Int.mul_comm]
  exact Int.mul_le_mul_of_nonneg_left (by omega) m1
 have key : Ev (fun k => interval_part.j0 k n num den (n / den) false) (n * num / den, true) := by
  refine ev_some 1 fun k => ?_
  rw [interval_part.j0, if_neg (by simp), w64 (x := n / den * den) (by omega) (by omega), w64 (x := n - n / den * den) (by omega) (by omega), w64 (x := (n - n / den * den) * num) (by omega) (by omega), f2, Option.bind_some, w64 (x := n / den * num) (by omega) (by omega), s, w64 (by omega) (by omega), out_ok r1 r2, Option.bind_some]
  rfl
 unfold interval_part.f
 refine Ev.congr (fun k => by rw [f1, Option.bind_some]) ?_
 by_cases c : num = 0
 ·exact Ev.congr (fun k => if_pos c) key
 ·have hm : 0 < num := by omega
  have ha : decide ((if n / den < 0 then -(n / den) else n / den) > wrap64 (2000000000000000000 / num)) = false := by
   refine decide_eq_false ?_
   have b1 : 0 ≤ 2000000000000000000 / num := Int.ediv_nonneg (by omega) (by omega)
   have b2 : 2000000000000000000 / num ≤ 2000000000000000000 := Int.ediv_le_self _ (by omega)
   rw [w64 (by omega) (by omega)]
   have b3 : (if n / den < 0 then -(n / den) else n / den) ≤ 2000000000000000000 / num := by
    refine (Int.le_ediv_iff_mul_le hm).2 ?_
    by_cases z : n / den < 0
    ·rw [if_pos z, Int.neg_mul]; omega
    ·rw [if_neg z]; omega
   omega
  refine Ev.congr (fun k => by rw [if_neg c, abs_at _ (by omega) (by omega), Option.bind_some, ha]) key
theorem scale_ev {lo hi num den : Int} (h0 : -1000000000000000000 ≤ lo) (h1 : lo ≤ hi) (h2 : hi ≤ 1000000000000000000) (m1 : -1000000000 ≤ num) (m2 : num ≤ 1000000000) (d1 : 1 ≤ den) (d2 : den ≤ 1000000000)
  (r1 : -1000000000000000000 * den ≤ lo * num) (r2 : lo * num ≤ 1000000000000000000 * den) (r3 : -1000000000000000000 * den ≤ hi * num) (r4 : hi * num ≤ 1000000000000000000 * den) :
  Ev (fun k => interval_Scale.f k lo hi num den) (if num < 0 then (hi * num / den, -(-(lo * num) / den), 0) else (lo * num / den, -(-(hi * num) / den), 0)) := by
 have hc := interval_Check_ev lo hi
 rw [sp_zero' h0 h1 h2] at hc
 have rng : ∀ x, -1000000000000000000 * den ≤ x → x ≤ 1000000000000000000 * den → -1000000000000000000 ≤ x / den ∧ x / den ≤ 1000000000000000000 := by
  intro x a b
  exact ⟨Int.le_ediv_of_mul_le (by omega) a, Int.ediv_le_of_le_mul (by omega) b⟩
 have tail : ∀ l h m : Int, -1000000000000000000 ≤ l → l ≤ 1000000000000000000 → -1000000000000000000 ≤ h → h ≤ 1000000000000000000 → 0 ≤ m → m ≤ 1000000000 → -1000000000000000000 * den ≤ l * m → l * m ≤ 1000000000000000000 * den → -1000000000000000000 * den ≤ -(h * m) → -(h * m) ≤ 1000000000000000000 * den →
   Ev (fun k => interval_Scale.j1 k m den l h) (l * m / den, -(-(h * m) / den), 0) := by
  intro l h m l1 l2 h1 h2 m1 m2 x1 x2 y1 y2
  obtain ⟨u1, u2⟩ := rng _ x1 x2
  obtain ⟨v1, v2⟩ := rng _ y1 y2
  have e1 := ipart_ev l1 l2 m1 m2 d1 d2 u1 u2
  have e2 := ipart_ev (n := -h) (num := m) (den := den) (by omega) (by omega) m1 m2 d1 d2 (by rw [Int.neg_mul]; exact v1) (by rw [Int.neg_mul]; exact v2)
  rw [Int.neg_mul] at e2
  refine ev_step 1 (fun k => by rw [interval_Scale.j1, w64 (x := -h) (by omega) (by omega)]) ?_
  refine ev_bind e1 (ev_bind e2 ?_)
  refine ev_some 0 fun k => ?_
  rw [if_pos rfl, if_pos rfl, w64 (by omega) (by omega)]
 unfold interval_Scale.f
 refine ev_bind hc ?_
 refine Ev.congr (fun k => by rw [if_pos rfl, if_neg (by omega), if_neg (by omega), if_neg (by omega), decide_eq_false (show ¬ num > 1000000000 by omega)]) ?_
 by_cases c : num < 0
 ·rw [if_pos c]
  have t := tail (-hi) (-lo) (-num) (by omega) (by omega) (by omega) (by omega) (by omega) (by omega) (by rw [Int.neg_mul_neg]; omega) (by rw [Int.neg_mul_neg]; omega) (by rw [Int.neg_mul_neg]; omega) (by rw [Int.neg_mul_neg]; omega)
  rw [Int.neg_mul_neg, Int.neg_mul_neg] at t
  refine ev_step 1 (fun k => by rw [interval_Scale.j0, if_neg (by simp), if_pos c, w64 (x := -num) (by omega) (by omega), w64 (x := -hi) (by omega) (by omega), w64 (x := -lo) (by omega) (by omega)]) t
 ·rw [if_neg c]
  exact ev_step 1 (fun k => by rw [interval_Scale.j0, if_neg (by simp), if_neg c]) (tail lo hi num (by omega) (by omega) (by omega) (by omega) (by omega) (by omega) (by omega) (by omega) (by omega) (by omega))
def it (t : Int) : Int := if -345600000000000 ≤ t ∧ t < 345600086400000 then 0 else 3
end Go.Proofs.Ytedakilpogagiaa.Vals
