/- Scale, and sums of terms: the program's intervals hold the reference's sums. -/
import Derived.Test.YtcifakgcbgodiaaTideEndsn27
import Derived.Test.YtcifakgcbgodiaaTideEndsn28
namespace Go.Proofs.Ytcifakgcbgodiaa.Vals
open Go.RowKit YtcifakgcbgodiaaW.PrintWords YtcifakgcbgodiaaW.PrintLast YtcifakgcbgodiaaW.PrintMore Opn PAll Base Turn Fix Oct OctT SinT RefT Circ Over Units Args SumsT
set_option linter.unusedVariables false
set_option linter.unusedSimpArgs false
theorem split_div (n num : Int) {den : Int} (hd : 0 < den) : n / den * num + (n - n / den * den) * num / den = n * num / den := by
 have e : n * num = (n - n / den * den) * num + n / den * num * den := by
  rw [Int.sub_mul]
  have : n / den * den * num = n / den * num * den := by rw [Int.mul_assoc, Int.mul_comm den num, Int.mul_assoc]
  rw [this]; omega
 rw [e, Int.add_mul_ediv_right _ _ (by omega)]
 omega
theorem abs_at (q : Int) (h1 : -2000000000000000000 ≤ q) (h2 : q ≤ 2000000000000000000) : interval_abs.f q = some (if q < 0 then -q else q) := by
 unfold interval_abs.f
 by_cases c : q < 0
 ·rw [if_pos c, if_pos c, w64 (by omega) (by omega)]
 ·rw [if_neg c, if_neg c]
theorem out_ok {t : Int} (h1 : -1000000000000000000 ≤ t) (h2 : t ≤ 1000000000000000000) : interval_out.f t = some false := by
 unfold interval_out.f
 rw [if_neg (by omega)]
 exact congrArg some (decide_eq_false (by omega))
theorem ipart_ev {n num den : Int} (n1 : -1000000000000000000 ≤ n) (n2 : n ≤ 1000000000000000000) (m1 : 0 ≤ num) (m2 : num ≤ 1000000000) (d1 : 1 ≤ den) (d2 : den ≤ 1000000000) (r1 : -1000000000000000000 ≤ n * num / den) (r2 : n * num / den ≤ 1000000000000000000) : Ev (fun k => interval_part.f k n num den) (n * num / den, true) := by
 have s := split_div n num (den := den) (by omega)
 have f1 := floor_pos (a := n) (b := den) (by omega) (by omega)
 have q1 : n / den * den ≤ n := Int.ediv_mul_le _ (by omega)
 have q2 : n < n / den * den + den := by
  have := Int.lt_ediv_add_one_mul_self n (show 0 < den by omega)
  rw [Int.add_mul, Int.one_mul] at this
  exact this
 have hq1 : n / den ≤ 1000000000000000000 := by
  rcases Int.lt_or_le n 0 with c | c
  ·have := Int.ediv_neg_of_neg_of_pos c (show 0 < den by omega); omega
  ·have := Int.ediv_le_self den c; omega
 have hq2 : -1000000000000000000 ≤ n / den := by
  rcases Int.lt_or_le (n / den) (-1000000000000000000) with c | c
  ·have : n / den * den ≤ n / den * 1 := by
    have := Int.mul_le_mul_of_nonneg_left d1 (show 0 ≤ -(n / den) by omega)
    rw [Int.neg_mul, Int.neg_mul] at this; omega
   have k : (n / den + 1) * den ≤ (n / den + 1) * 1 := by
    have := Int.mul_le_mul_of_nonneg_left d1 (show 0 ≤ -(n / den + 1) by omega)
    rw [Int.neg_mul, Int.neg_mul] at this; omega
   rw [Int.add_mul] at k
   omega
  ·exact c
 obtain ⟨p1, p2⟩ := prod_in (a := n - n / den * den) (A := 1000000000) (b := num) (B := 1000000000) (by omega) (by omega) m1 m2
 have f2 := floor_pos (a := (n - n / den * den) * num) (b := den) (by omega) (by omega)
 have t1 : 0 ≤ (n - n / den * den) * num / den := Int.ediv_nonneg p1 (by omega)
 have t2 : (n - n / den * den) * num / den ≤ num := by
  refine Int.ediv_le_of_le_mul (by omega) ?_
  rw [Int.mul_comm]
  exact Int.mul_le_mul_of_nonneg_left (by omega) m1
 have key : Ev (fun k => interval_part.j0 k n num den (n / den) false) (n * num / den, true) := by
  refine ev_some 1 fun k => ?_
  rw [interval_part.j0, if_neg (by simp), w64 (x := n / den * den) (by omega) (by omega), w64 (x := n - n / den * den) (by omega) (by omega), w64 (x := (n - n / den * den) * num) (by omega) (by omega), f2, Option.bind_some, w64 (x := n / den * num) (by omega) (by omega), s, w64 (by omega) (by omega), out_ok r1 r2, Option.bind_some]
  rfl
 unfold interval_part.f
 refine Ev.congr (fun k => by rw [f1, Option.bind_some]) ?_
 by_cases c : num = 0
 ·exact Ev.congr (fun k => if_pos c) key
 ·have hm : 0 < num := by omega
  have ha : decide ((if n / den < 0 then -(n / den) else n / den) > wrap64 (2000000000000000000 / num)) = false := by
   refine decide_eq_false ?_
   have b1 : 0 ≤ 2000000000000000000 / num := Int.ediv_nonneg (by omega) (by omega)
   have b2 : 2000000000000000000 / num ≤ 2000000000000000000 := Int.ediv_le_self _ (by omega)
   rw [w64 (by omega) (by omega)]
   have b3 : (if n / den < 0 then -(n / den) else n / den) ≤ 2000000000000000000 / num := by
    refine (Int.le_ediv_iff_mul_le hm).2 ?_
    by_cases z : n / den < 0
    ·rw [if_pos z, Int.neg_mul]; omega
    ·rw [if_neg z]; omega
   omega
  refine Ev.congr (fun k => by rw [if_neg c, abs_at _ (by omega) (by omega), Option.bind_some, ha]) key
theorem scale_ev {lo hi num den : Int} (h0 : -1000000000000000000 ≤ lo) (h1 : lo ≤ hi) (h2 : hi ≤ 1000000000000000000) (m1 : -1000000000 ≤ num) (m2 : num ≤ 1000000000) (d1 : 1 ≤ den) (d2 : den ≤ 1000000000)
  (r1 : -1000000000000000000 * den ≤ lo * num) (r2 : lo * num ≤ 1000000000000000000 * den) (r3 : -1000000000000000000 * den ≤ hi * num) (r4 : hi * num ≤ 1000000000000000000 * den) :
  Ev (fun k => interval_Scale.f k lo hi num den) (if num < 0 then (hi * num / den, -(-(lo * num) / den), 0) else (lo * num / den, -(-(hi * num) / den), 0)) := by
 have hc := interval_Check_ev lo hi
 rw [sp_zero' h0 h1 h2] at hc
 have rng : ∀ x, -1000000000000000000 * den ≤ x → x ≤ 1000000000000000000 * den → -1000000000000000000 ≤ x / den ∧ x / den ≤ 1000000000000000000 := by
  intro x a b
  exact ⟨Int.le_ediv_of_mul_le (by omega) a, Int.ediv_le_of_le_mul (by omega) b⟩
 have tail : ∀ l h m : Int, -1000000000000000000 ≤ l → l ≤ 1000000000000000000 → -1000000000000000000 ≤ h → h ≤ 1000000000000000000 → 0 ≤ m → m ≤ 1000000000 → -1000000000000000000 * den ≤ l * m → l * m ≤ 1000000000000000000 * den → -1000000000000000000 * den ≤ -(h * m) → -(h * m) ≤ 1000000000000000000 * den →
   Ev (fun k => interval_Scale.j1 k m den l h) (l * m / den, -(-(h * m) / den), 0) := by
  intro l h m l1 l2 h1 h2 m1 m2 x1 x2 y1 y2
  obtain ⟨u1, u2⟩ := rng _ x1 x2
  obtain ⟨v1, v2⟩ := rng _ y1 y2
  have e1 := ipart_ev l1 l2 m1 m2 d1 d2 u1 u2
  have e2 := ipart_ev (n := -h) (num := m) (den := den) (by omega) (by omega) m1 m2 d1 d2 (by rw [Int.neg_mul]; exact v1) (by rw [Int.neg_mul]; exact v2)
  rw [Int.neg_mul] at e2
  refine ev_step 1 (fun k => by rw [interval_Scale.j1, w64 (x := -h) (by omega) (by omega)]) ?_
  refine ev_bind e1 (ev_bind e2 ?_)
  refine ev_some 0 fun k => ?_
  rw [if_pos rfl, if_pos rfl, w64 (by omega) (by omega)]
 unfold interval_Scale.f
 refine ev_bind hc ?_
 refine Ev.congr (fun k => by rw [if_pos rfl, if_neg (by omega), if_neg (by omega), if_neg (by omega), decide_eq_false (show ¬ num > 1000000000 by omega)]) ?_
 by_cases c : num < 0
 ·rw [if_pos c]
  have t := tail (-hi) (-lo) (-num) (by omega) (by omega) (by omega) (by omega) (by omega) (by omega) (by rw [Int.neg_mul_neg]; omega) (by rw [Int.neg_mul_neg]; omega) (by rw [Int.neg_mul_neg]; omega) (by rw [Int.neg_mul_neg]; omega)
  rw [Int.neg_mul_neg, Int.neg_mul_neg] at t
  refine ev_step 1 (fun k => by rw [interval_Scale.j0, if_neg (by simp), if_pos c, w64 (x := -num) (by omega) (by omega), w64 (x := -hi) (by omega) (by omega), w64 (x := -lo) (by omega) (by omega)]) t
 ·rw [if_neg c]
  exact ev_step 1 (fun k => by rw [interval_Scale.j0, if_neg (by simp), if_neg c]) (tail lo hi num (by omega) (by omega) (by omega) (by omega) (by omega) (by omega) (by omega) (by omega) (by omega) (by omega))
theorem part_any {a s : Int} (a1 : -1000000000 ≤ a) (a2 : a ≤ 1000000000) (h1 : -1152921504606849376 ≤ s) (h2 : s ≤ 1152921504606849376) : ∃ p : Int, ephemerisref2_Part.f a s = some p ∧ p * 1099511627776 < a * s + 1099511627776 ∧ a * s < p * 1099511627776 + 1099511627776 ∧ -1100000000000000 ≤ p ∧ p ≤ 1100000000000000 := by
 have core : ∀ v, 0 ≤ v → v ≤ 1152921504606849376 → ∃ p, (wrap64 ((wrap64 (a * (v / 1073741824))) + ((wrap64 (a * (v % 1073741824))) / 1073741824))) / 1024 = p ∧ p * 1099511627776 ≤ a * v ∧ a * v < p * 1099511627776 + 1099511627776 ∧ -1100000000000000 ≤ p ∧ p ≤ 1100000000000000 := by
  intro v v0 v1
  have x1 : -1000000000 * 1073741827 ≤ a * (v / 1073741824) ∧ a * (v / 1073741824) ≤ 1000000000 * 1073741827 := by
   have k1 := Int.mul_le_mul_of_nonneg_right a1 (show 0 ≤ v / 1073741824 by omega)
   have k2 := Int.mul_le_mul_of_nonneg_right a2 (show 0 ≤ v / 1073741824 by omega)
   constructor <;> omega
  have x2 : -1000000000 * 1073741824 ≤ a * (v % 1073741824) ∧ a * (v % 1073741824) ≤ 1000000000 * 1073741824 := by
   have k1 := Int.mul_le_mul_of_nonneg_right a1 (show 0 ≤ v % 1073741824 by omega)
   have k2 := Int.mul_le_mul_of_nonneg_right a2 (show 0 ≤ v % 1073741824 by omega)
   constructor <;> omega
  have e : a * v = a * (v / 1073741824) * 1073741824 + a * (v % 1073741824) := by
   have : v = v / 1073741824 * 1073741824 + v % 1073741824 := by omega
   conv => lhs; rw [this]
   rw [Int.mul_add, Int.mul_assoc]
  rw [e]
  generalize a * (v / 1073741824) = X at *
  generalize a * (v % 1073741824) = Y at *
  rw [w64 (x := X) (by omega) (by omega), w64 (x := Y) (by omega) (by omega), w64 (by omega) (by omega)]
  exact ⟨_, rfl, by omega, by omega, by omega, by omega⟩
 unfold ephemerisref2_Part.f
 by_cases c : s < 0
 ·obtain ⟨p, e, p1, p2, p3, p4⟩ := core (-s) (by omega) (by omega)
  rw [if_pos c, w64 (x := -s) (by omega) (by omega), low30 (show 0 ≤ -s by omega) (by omega), e, w64 (by omega) (by omega)]
  rw [Int.mul_neg] at p1 p2
  exact ⟨_, rfl, by omega, by omega, by omega, by omega⟩
 ·obtain ⟨p, e, p1, p2, p3, p4⟩ := core s (by omega) (by omega)
  rw [if_neg c, low30 (show 0 ≤ s by omega) (by omega), e, w64 (by omega) (by omega)]
  exact ⟨_, rfl, by omega, by omega, by omega, by omega⟩
theorem term_in {a L H s p vl vh : Int} (a1 : -1000000000 ≤ a) (a2 : a ≤ 1000000000) (hL : L * 1152921504606846976 ≤ 1000000000 * (s + 2400)) (hH : 1000000000 * (s - 2400) ≤ H * 1152921504606846976) (p1 : p * 1099511627776 < a * s + 1099511627776) (p2 : a * s < p * 1099511627776 + 1099511627776)
  (ev : (vl, vh, (0 : Int)) = (if a < 0 then (H * a / 1000000000, -(-(L * a) / 1000000000), 0) else (L * a / 1000000000, -(-(H * a) / 1000000000), 0))) : vl * 1048576 ≤ p + 4 ∧ p ≤ vh * 1048576 + 4 := by
 by_cases c : a < 0
 ·rw [if_pos c] at ev
  injection ev with e1 ev
  injection ev with e2 _
  have k1 := Int.mul_le_mul_of_nonneg_left hL (show 0 ≤ -a by omega)
  have k2 := Int.mul_le_mul_of_nonneg_left hH (show 0 ≤ -a by omega)
  have r1 : -a * (L * 1152921504606846976) = -(L * a) * 1152921504606846976 := by rw [← Int.mul_assoc, Int.neg_mul, Int.mul_comm a L]
  have r2 : -a * (H * 1152921504606846976) = -(H * a) * 1152921504606846976 := by rw [← Int.mul_assoc, Int.neg_mul, Int.mul_comm a H]
  have r3 : -a * (1000000000 * (s + 2400)) = 1000000000 * (-(a * s) - a * 2400) := by
   rw [Int.mul_left_comm, Int.mul_add, Int.neg_mul, Int.neg_mul]; omega
  have r4 : -a * (1000000000 * (s - 2400)) = 1000000000 * (-(a * s) + a * 2400) := by
   rw [Int.mul_left_comm, Int.mul_sub, Int.neg_mul, Int.neg_mul]; omega
  rw [r1, r3] at k1
  rw [r2, r4] at k2
  clear r1 r2 r3 r4 hL hH
  generalize L * a = X at *
  generalize H * a = Y at *
  generalize a * s = Z at *
  constructor <;> omega
 ·rw [if_neg c] at ev
  injection ev with e1 ev
  injection ev with e2 _
  have k1 := Int.mul_le_mul_of_nonneg_left hL (show 0 ≤ a by omega)
  have k2 := Int.mul_le_mul_of_nonneg_left hH (show 0 ≤ a by omega)
  have r1 : a * (L * 1152921504606846976) = (L * a) * 1152921504606846976 := by rw [← Int.mul_assoc, Int.mul_comm a L]
  have r2 : a * (H * 1152921504606846976) = (H * a) * 1152921504606846976 := by rw [← Int.mul_assoc, Int.mul_comm a H]
  have r3 : a * (1000000000 * (s + 2400)) = 1000000000 * (a * s + a * 2400) := by
   rw [Int.mul_left_comm, Int.mul_add]
  have r4 : a * (1000000000 * (s - 2400)) = 1000000000 * (a * s - a * 2400) := by
   rw [Int.mul_left_comm, Int.mul_sub]
  rw [r1, r3] at k1
  rw [r2, r4] at k2
  clear r1 r2 r3 r4 hL hH
  generalize L * a = X at *
  generalize H * a = Y at *
  generalize a * s = Z at *
  constructor <;> omega
theorem term_wide {a L H vl vh : Int} (a1 : -1000000000 ≤ a) (a2 : a ≤ 1000000000) (hw : H - L ≤ 10) (hl : -1000000000 ≤ L) (hh : H ≤ 1000000000) (lh : L ≤ H)
  (ev : (vl, vh, (0 : Int)) = (if a < 0 then (H * a / 1000000000, -(-(L * a) / 1000000000), 0) else (L * a / 1000000000, -(-(H * a) / 1000000000), 0))) : vh - vl ≤ (if a < 0 then -a else a) / 100000000 + 2 ∧ -1000000000 ≤ vl ∧ vh ≤ 1000000000 ∧ vl ≤ vh := by
 by_cases c : a < 0
 ·rw [if_pos c] at ev ⊢
  injection ev with e1 ev
  injection ev with e2 _
  have k1 := Int.mul_le_mul_of_nonneg_right hw (show 0 ≤ -a by omega)
  have k2 := Int.mul_le_mul_of_nonneg_right hl (show 0 ≤ -a by omega)
  have k3 := Int.mul_le_mul_of_nonneg_right hh (show 0 ≤ -a by omega)
  have k4 := Int.mul_le_mul_of_nonneg_right lh (show 0 ≤ -a by omega)
  rw [Int.sub_mul, Int.mul_neg, Int.mul_neg] at k1
  rw [Int.mul_neg, Int.mul_neg] at k2 k3 k4
  generalize L * a = X at *
  generalize H * a = Y at *
  refine ⟨?_, ?_, ?_, ?_⟩ <;> omega
 ·rw [if_neg c] at ev ⊢
  injection ev with e1 ev
  injection ev with e2 _
  have k1 := Int.mul_le_mul_of_nonneg_right hw (show 0 ≤ a by omega)
  have k2 := Int.mul_le_mul_of_nonneg_right hl (show 0 ≤ a by omega)
  have k3 := Int.mul_le_mul_of_nonneg_right hh (show 0 ≤ a by omega)
  have k4 := Int.mul_le_mul_of_nonneg_right lh (show 0 ≤ a by omega)
  rw [Int.sub_mul] at k1
  generalize L * a = X at *
  generalize H * a = Y at *
  refine ⟨?_, ?_, ?_, ?_⟩ <;> omega
theorem holds_le {L H lo hi : Int} (A : Holds L H lo hi) (h : lo ≤ hi) : L ≤ H := by
 obtain ⟨a, b⟩ := A.tell (lo * 1000000) (by omega) (by omega)
 exact int_of_rat (Rat.le_trans a b)
def it (t : Int) : Int := if -345600000000000 ≤ t ∧ t < 345600086400000 then 0 else 3
theorem valid_at (t : Int) : series_Valid.f t = some (decide (-345600000000000 ≤ t ∧ t < 345600086400000)) := by
 unfold series_Valid.f
 by_cases c : t ≥ -345600000000000
 ·rw [if_pos c]
  by_cases d : t < 345600086400000
  ·rw [decide_eq_true d, decide_eq_true ⟨c, d⟩]
  ·rw [decide_eq_false d, decide_eq_false (by omega)]
 ·rw [if_neg c, decide_eq_false (by omega)]
theorem instErr_at (t : Int) : ephemerisref2_InstantErr.f t = some (it t) := by
 unfold ephemerisref2_InstantErr.f it
 by_cases c : t < -345600000000000
 ·rw [if_pos c, if_neg (by omega)]
 ·rw [if_neg c]
  by_cases d : t ≥ 345600086400000
  ·rw [if_pos d, if_neg (by omega)]
  ·rw [if_neg d, if_pos (by omega)]
theorem it_zero {t : Int} (h : it t = 0) : -345600000000000 ≤ t ∧ t < 345600086400000 := by
 unfold it at h
 split at h
 ·assumption
 ·cases h
def st2 (m b : Int) (l : List S80) (d t : Int) : Int := if se m b l d = 0 then it t else se m b l d
theorem check2_ev (m b : Int) (l : List S80) (d t : Int) : Ev (fun k => series_check.f k m b l d t) (st2 m b l d t) := by
 unfold series_check.f st2
 refine ev_bind (check_ev m b l d) ?_
 by_cases c : se m b l d = 0
 ·simp only [if_pos c]
  refine ev_some 0 fun k => ?_
  rw [valid_at, Option.bind_some]
  unfold it
  by_cases e : -345600000000000 ≤ t ∧ t < 345600086400000
  ·rw [decide_eq_true e, if_pos rfl, if_pos e]
  ·rw [decide_eq_false e, if_neg (by simp), if_neg e]
 ·simp only [if_neg c]
  exact ev_some 0 fun k => rfl
end Go.Proofs.Ytcifakgcbgodiaa.Vals
