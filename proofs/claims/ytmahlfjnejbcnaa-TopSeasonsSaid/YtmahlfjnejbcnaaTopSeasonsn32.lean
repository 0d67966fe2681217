/- Scale, and sums of terms: the program's intervals hold the reference's sums. -/
import Derived.Test.YtmahlfjnejbcnaaTopSeasonsn30
import Derived.Test.YtmahlfjnejbcnaaTopSeasonsn31
namespace Go.Proofs.Ytmahlfjnejbcnaa.Vals
open Go.RowKit YtmahlfjnejbcnaaW.PrintWords YtmahlfjnejbcnaaW.PrintLast YtmahlfjnejbcnaaW.PrintMore Opn PAll Base Turn Fix Oct OctT SinT RefT Circ Over Units Args SumsT
set_option linter.unusedVariables false
set_option linter.unusedSimpArgs false
theorem split_div (n num : Int) {den : Int} (hd : 0 < den) : n / den * num + (n - n / den * den) * num / den = n * num / den := by
 have e : n * num = (n - n / den * den) * num + n / den * num * den := by
  rw [Int.sub_mul]
  have : n / den * den * num = n / den * num * den := by rw [Int.mul_assoc, Int.mul_comm den num, Int.mul_assoc]
  rw [this]; omega
 rw [e, Int.add_mul_ediv_right _ _ (by omega)]
 omega
theorem abs_at (q : Int) (h1 : -2000000000000000000 ≤ q) (h2 : q ≤ 2000000000000000000) : interval_abs.f q = some (if q < 0 then -q else q) := by
 unfold interval_abs.f
 by_cases c : q < 0
 ·rw [if_pos c, if_pos c, w64 (by omega) (by omega)]
 ·rw [if_neg c, if_neg c]
theorem out_ok {t : Int} (h1 : -1000000000000000000 ≤ t) (h2 : t ≤ 1000000000000000000) : interval_out.f t = some false := by
 unfold interval_out.f
 rw [if_neg (by omega)]
 exact congrArg some (decide_eq_false (by omega))
theorem ipart_ev {n num den : Int} (n1 : -1000000000000000000 ≤ n) (n2 : n ≤ 1000000000000000000) (m1 : 0 ≤ num) (m2 : num ≤ 1000000000) (d1 : 1 ≤ den) (d2 : den ≤ 1000000000) (r1 : -1000000000000000000 ≤ n * num / den) (r2 : n * num / den ≤ 1000000000000000000) : Ev (fun k => interval_part.f k n num den) (n * num / den, true) := by
 have s := split_div n num (den := den) (by omega)
 have f1 := floor_pos (a := n) (b := den) (by omega) (by omega)
 have q1 : n / den * den ≤ n := Int.ediv_mul_le _ (by omega)
 have q2 : n < n / den * den + den := by
  have := Int.lt_ediv_add_one_mul_self n (show 0 < den by omega)
  rw [Int.add_mul, Int.one_mul] at this
  exact this
 have hq1 : n / den ≤ 1000000000000000000 := by
  rcases Int.lt_or_le n 0 with c | c
  ·have := Int.ediv_neg_of_neg_of_pos c (show 0 < den by omega); omega
  ·have := Int.ediv_le_self den c; omega
 have hq2 : -1000000000000000000 ≤ n / den := by
  rcases Int.lt_or_le (n / den) (-1000000000000000000) with c | c
  ·have : n / den * den ≤ n / den * 1 := by
    have := Int.mul_le_mul_of_nonneg_left d1 (show 0 ≤ -(n / den) by omega)
    rw [Int.neg_mul, Int.neg_mul] at this; omega
   have k : (n / den + 1) * den ≤ (n / den + 1) * 1 := by
    have := Int.mul_le_mul_of_nonneg_left d1 (show 0 ≤ -(n / den + 1) by omega)
    rw [Int.neg_mul, Int.neg_mul] at this; omega
   rw [Int.add_mul] at k
   omega
  ·exact c
 obtain ⟨p1, p2⟩ := prod_in (a := n - n / den * den) (A := 1000000000) (b := num) (B := 1000000000) (by omega) (by omega) m1 m2
 have f2 := floor_pos (a := (n - n / den * den) * num) (b := den) (by omega) (by omega)
 have t1 : 0 ≤ (n - n / den * den) * num / den := Int.ediv_nonneg p1 (by omega)
 have t2 : (n - n / den * den) * num / den ≤ num := by
  refine Int.ediv_le_of_le_mul (by omega) ?_
  rw [Int.mul_comm]
  exact Int.mul_le_mul_of_nonneg_left (by omega) m1
 have key : Ev (fun k => interval_part.j0 k n num den (n / den) false) (n * num / den, true) := by
  refine ev_some 1 fun k => ?_
  rw [interval_part.j0, if_neg (by simp), w64 (x := n / den * den) (by omega) (by omega), w64 (x := n - n / den * den) (by omega) (by omega), w64 (x := (n - n / den * den) * num) (by omega) (by omega), f2, Option.bind_some, w64 (x := n / den * num) (by omega) (by omega), s, w64 (by omega) (by omega), out_ok r1 r2, Option.bind_some]
  rfl
 unfold interval_part.f
 refine Ev.congr (fun k => by rw [f1, Option.bind_some]) ?_
 by_cases c : num = 0
 ·exact Ev.congr (fun k => if_pos c) key
 ·have hm : 0 < num := by omega
  have ha : decide ((if n / den < 0 then -(n / den) else n / den) > wrap64 (2000000000000000000 / num)) = false := by
   refine decide_eq_false ?_
   have b1 : 0 ≤ 2000000000000000000 / num := Int.ediv_nonneg (by omega) (by omega)
   have b2 : 2000000000000000000 / num ≤ 2000000000000000000 := Int.ediv_le_self _ (by omega)
   rw [w64 (by omega) (by omega)]
   have b3 : (if n / den < 0 then -(n / den) else n / den) ≤ 2000000000000000000 / num := by
    refine (Int.le_ediv_iff_mul_le hm).2 ?_
    by_cases z : n / den < 0
    ·rw [if_pos z, Int.neg_mul]; omega
    ·rw [if_neg z]; omega
   omega
  refine Ev.congr (fun k => by rw [if_neg c, abs_at _ (by omega) (by omega), Option.bind_some, ha]) key
theorem obV {α β : Type} {g : Nat → Option α} {f : Nat → α → Option β} {a : α} {r : β} (h : Ev g a) (k : Ev (fun n => f n a) r) : Ev (fun n => Sx.ob (g n) (f n)) r := Ev.congr (fun n => Sx.ob_eq _ _) (ev_bind h k)
theorem oifV {β : Type} {c : Prop} [inst : Decidable c] {A B : Option β} (h : ¬ c) : Sx.oif c A B = B := by rw [Sx.oif_eq, if_neg h]
theorem oifW {β : Type} {c : Prop} [inst : Decidable c] {A B : Option β} (h : c) : Sx.oif c A B = A := by rw [Sx.oif_eq, if_pos h]
def scJ (k : Nat) (m den l h : Int) : Option (Int × Int × Int) := Sx.ob (interval_part.f k l m den) fun t4 => Sx.ob (interval_part.f k (Go.IntKind.i64.wrap (0 - h)) m den) fun t5 => Sx.oif ((!t4.snd) = true) (some (0, 0, 14)) (Sx.oif ((!t5.snd) = true) (some (0, 0, 14)) (some (t4.fst, Go.IntKind.i64.wrap (0 - t5.fst), 0)))
theorem scale_ev {lo hi num den : Int} (h0 : -1000000000000000000 ≤ lo) (h1 : lo ≤ hi) (h2 : hi ≤ 1000000000000000000) (m1 : -1000000000 ≤ num) (m2 : num ≤ 1000000000) (d1 : 1 ≤ den) (d2 : den ≤ 1000000000)
  (r1 : -1000000000000000000 * den ≤ lo * num) (r2 : lo * num ≤ 1000000000000000000 * den) (r3 : -1000000000000000000 * den ≤ hi * num) (r4 : hi * num ≤ 1000000000000000000 * den) :
  Ev (fun k => interval_Scale.f k lo hi num den) (if num < 0 then (hi * num / den, -(-(lo * num) / den), 0) else (lo * num / den, -(-(hi * num) / den), 0)) := by
 have hc := interval_Check_ev lo hi
 rw [sp_zero' h0 h1 h2] at hc
 have rng : ∀ x, -1000000000000000000 * den ≤ x → x ≤ 1000000000000000000 * den → -1000000000000000000 ≤ x / den ∧ x / den ≤ 1000000000000000000 := by
  intro x a b
  exact ⟨Int.le_ediv_of_mul_le (by omega) a, Int.ediv_le_of_le_mul (by omega) b⟩
 have tail : ∀ l h m : Int, -1000000000000000000 ≤ l → l ≤ 1000000000000000000 → -1000000000000000000 ≤ h → h ≤ 1000000000000000000 → 0 ≤ m → m ≤ 1000000000 → -1000000000000000000 * den ≤ l * m → l * m ≤ 1000000000000000000 * den → -1000000000000000000 * den ≤ -(h * m) → -(h * m) ≤ 1000000000000000000 * den →
   Ev (fun k => scJ k m den l h) (l * m / den, -(-(h * m) / den), 0) := by
  intro l h m l1 l2 h1 h2 m1 m2 x1 x2 y1 y2
  obtain ⟨u1, u2⟩ := rng _ x1 x2
  obtain ⟨v1, v2⟩ := rng _ y1 y2
  have e1 := ipart_ev l1 l2 m1 m2 d1 d2 u1 u2
  have e2 := ipart_ev (n := -h) (num := m) (den := den) (by omega) (by omega) m1 m2 d1 d2 (by rw [Int.neg_mul]; exact v1) (by rw [Int.neg_mul]; exact v2)
  rw [Int.neg_mul] at e2
  unfold scJ
  rw [i64_w, w64 (x := 0 - h) (by omega) (by omega), show 0 - h = -h by omega]
  refine obV e1 (obV e2 ?_)
  refine Ev.congr (fun k => oifV (by simp)) (Ev.congr (fun k => oifV (by simp)) ?_)
  refine ev_some 0 fun k => ?_
  dsimp only
  rw [i64_w, w64 (by omega) (by omega), show 0 - -(h * m) / den = -(-(h * m) / den) by omega]
 unfold interval_Scale.f
 refine obV hc ?_
 refine Ev.congr (fun k => oifV (by simp)) ?_
 refine Ev.congr (fun k => oifV (by rw [decide_eq_true_eq]; omega)) ?_
 refine Ev.congr (fun k => oifV (by rw [decide_eq_true_eq]; omega)) ?_
 refine Ev.congr (fun k => oifV (by rw [decide_eq_true_eq]; omega)) ?_
 refine Ev.congr (fun k => oifV (by rw [decide_eq_true_eq]; omega)) ?_
 by_cases c : num < 0
 ·rw [if_pos c]
  have t := tail (-hi) (-lo) (-num) (by omega) (by omega) (by omega) (by omega) (by omega) (by omega) (by rw [Int.neg_mul_neg]; omega) (by rw [Int.neg_mul_neg]; omega) (by rw [Int.neg_mul_neg]; omega) (by rw [Int.neg_mul_neg]; omega)
  rw [Int.neg_mul_neg, Int.neg_mul_neg] at t
  refine Ev.congr (fun k => oifW (by rw [decide_eq_true_eq]; exact c)) ?_
  rw [i64_w (0 - hi), i64_w (0 - num), i64_w (0 - lo), w64 (x := 0 - hi) (by omega) (by omega), w64 (x := 0 - num) (by omega) (by omega), w64 (x := 0 - lo) (by omega) (by omega), show 0 - hi = -hi by omega, show 0 - num = -num by omega, show 0 - lo = -lo by omega]
  exact t
 ·rw [if_neg c]
  exact Ev.congr (fun k => oifV (by rw [decide_eq_true_eq]; exact c)) (tail lo hi num (by omega) (by omega) (by omega) (by omega) (by omega) (by omega) (by omega) (by omega) (by omega) (by omega))
theorem part_any {a s : Int} (a1 : -1000000000 ≤ a) (a2 : a ≤ 1000000000) (h1 : -1152921504606849376 ≤ s) (h2 : s ≤ 1152921504606849376) : ∃ p : Int, ephemerisref2_Part.f a s = some p ∧ p * 1099511627776 < a * s + 1099511627776 ∧ a * s < p * 1099511627776 + 1099511627776 ∧ -1100000000000000 ≤ p ∧ p ≤ 1100000000000000 := by
 have core : ∀ v, 0 ≤ v → v ≤ 1152921504606849376 → ∃ p, (wrap64 ((wrap64 (a * (v / 1073741824))) + ((wrap64 (a * (v % 1073741824))) / 1073741824))) / 1024 = p ∧ p * 1099511627776 ≤ a * v ∧ a * v < p * 1099511627776 + 1099511627776 ∧ -1100000000000000 ≤ p ∧ p ≤ 1100000000000000 := by
  intro v v0 v1
  have x1 : -1000000000 * 1073741827 ≤ a * (v / 1073741824) ∧ a * (v / 1073741824) ≤ 1000000000 * 1073741827 := by
   have k1 := Int.mul_le_mul_of_nonneg_right a1 (show 0 ≤ v / 1073741824 by omega)
   have k2 := Int.mul_le_mul_of_nonneg_right a2 (show 0 ≤ v / 1073741824 by omega)
   constructor <;> omega
  have x2 : -1000000000 * 1073741824 ≤ a * (v % 1073741824) ∧ a * (v % 1073741824) ≤ 1000000000 * 1073741824 := by
   have k1 := Int.mul_le_mul_of_nonneg_right a1 (show 0 ≤ v % 1073741824 by omega)
   have k2 := Int.mul_le_mul_of_nonneg_right a2 (show 0 ≤ v % 1073741824 by omega)
   constructor <;> omega
  have e : a * v = a * (v / 1073741824) * 1073741824 + a * (v % 1073741824) := by
   have : v = v / 1073741824 * 1073741824 + v % 1073741824 := by omega
   conv => lhs; rw [this]
   rw [Int.mul_add, Int.mul_assoc]
  rw [e]
  generalize a * (v / 1073741824) = X at *
  generalize a * (v % 1073741824) = Y at *
  rw [w64 (x := X) (by omega) (by omega), w64 (x := Y) (by omega) (by omega), w64 (by omega) (by omega)]
  exact ⟨_, rfl, by omega, by omega, by omega, by omega⟩
 unfold ephemerisref2_Part.f
 by_cases c : s < 0
 ·obtain ⟨p, e, p1, p2, p3, p4⟩ := core (-s) (by omega) (by omega)
  rw [if_pos c, w64 (x := -s) (by omega) (by omega), low30 (show 0 ≤ -s by omega) (by omega), e, w64 (by omega) (by omega)]
  rw [Int.mul_neg] at p1 p2
  exact ⟨_, rfl, by omega, by omega, by omega, by omega⟩
 ·obtain ⟨p, e, p1, p2, p3, p4⟩ := core s (by omega) (by omega)
  rw [if_neg c, low30 (show 0 ≤ s by omega) (by omega), e, w64 (by omega) (by omega)]
  exact ⟨_, rfl, by omega, by omega, by omega, by omega⟩
theorem holds_whole {L H lo hi t s : Int} (A : Holds L H lo hi) (t0 : lo * 1000000 ≤ t) (t1 : t ≤ hi * 1000000) (e1 : -1600000 ≤ (s : Rat) - u * S t) (e2 : (s : Rat) - u * S t ≤ 1600000) (b1 : -1152921504606849376 ≤ s) (b2 : s ≤ 1152921504606849376) : L * 1152921504606846976 ≤ 1000000000 * (s + 2400) ∧ 1000000000 * (s - 2400) ≤ H * 1152921504606846976 := by
 obtain ⟨m1, m2⟩ := A.marg t t0 t1
 constructor
 ·rcases m1 with m | m
  ·omega
  ·refine int_of_rat ?_
   push_cast
   rw [u_eq] at e1
   generalize S t = x at *
   generalize (s : Rat) = y at *
   generalize (L : Rat) = z at *
   clear e2 b1 b2 m2 A t0 t1
   grind
 ·rcases m2 with m | m
  ·omega
  ·refine int_of_rat ?_
   push_cast
   rw [u_eq] at e2
   generalize S t = x at *
   generalize (s : Rat) = y at *
   generalize (H : Rat) = z at *
   clear e1 b1 b2 m1 A t0 t1
   grind
theorem term_in {a L H s p vl vh : Int} (a1 : -1000000000 ≤ a) (a2 : a ≤ 1000000000) (hL : L * 1152921504606846976 ≤ 1000000000 * (s + 2400)) (hH : 1000000000 * (s - 2400) ≤ H * 1152921504606846976) (p1 : p * 1099511627776 < a * s + 1099511627776) (p2 : a * s < p * 1099511627776 + 1099511627776)
  (ev : (vl, vh, (0 : Int)) = (if a < 0 then (H * a / 1000000000, -(-(L * a) / 1000000000), 0) else (L * a / 1000000000, -(-(H * a) / 1000000000), 0))) : vl * 1048576 ≤ p + 4 ∧ p ≤ vh * 1048576 + 4 := by
 by_cases c : a < 0
 ·rw [if_pos c] at ev
  injection ev with e1 ev
  injection ev with e2 _
  have k1 := Int.mul_le_mul_of_nonneg_left hL (show 0 ≤ -a by omega)
  have k2 := Int.mul_le_mul_of_nonneg_left hH (show 0 ≤ -a by omega)
  have r1 : -a * (L * 1152921504606846976) = -(L * a) * 1152921504606846976 := by rw [← Int.mul_assoc, Int.neg_mul, Int.mul_comm a L]
  have r2 : -a * (H * 1152921504606846976) = -(H * a) * 1152921504606846976 := by rw [← Int.mul_assoc, Int.neg_mul, Int.mul_comm a H]
  have r3 : -a * (1000000000 * (s + 2400)) = 1000000000 * (-(a * s) - a * 2400) := by
   rw [Int.mul_left_comm, Int.mul_add, Int.neg_mul, Int.neg_mul]; omega
  have r4 : -a * (1000000000 * (s - 2400)) = 1000000000 * (-(a * s) + a * 2400) := by
   rw [Int.mul_left_comm, Int.mul_sub, Int.neg_mul, Int.neg_mul]; omega
  rw [r1, r3] at k1
  rw [r2, r4] at k2
  clear r1 r2 r3 r4 hL hH
  generalize L * a = X at *
  generalize H * a = Y at *
  generalize a * s = Z at *
  constructor <;> omega
 ·rw [if_neg c] at ev
  injection ev with e1 ev
  injection ev with e2 _
  have k1 := Int.mul_le_mul_of_nonneg_left hL (show 0 ≤ a by omega)
  have k2 := Int.mul_le_mul_of_nonneg_left hH (show 0 ≤ a by omega)
  have r1 : a * (L * 1152921504606846976) = (L * a) * 1152921504606846976 := by rw [← Int.mul_assoc, Int.mul_comm a L]
  have r2 : a * (H * 1152921504606846976) = (H * a) * 1152921504606846976 := by rw [← Int.mul_assoc, Int.mul_comm a H]
  have r3 : a * (1000000000 * (s + 2400)) = 1000000000 * (a * s + a * 2400) := by
   rw [Int.mul_left_comm, Int.mul_add]
  have r4 : a * (1000000000 * (s - 2400)) = 1000000000 * (a * s - a * 2400) := by
   rw [Int.mul_left_comm, Int.mul_sub]
  rw [r1, r3] at k1
  rw [r2, r4] at k2
  clear r1 r2 r3 r4 hL hH
  generalize L * a = X at *
  generalize H * a = Y at *
  generalize a * s = Z at *
  constructor <;> omega
theorem term_wide {a L H vl vh : Int} (a1 : -1000000000 ≤ a) (a2 : a ≤ 1000000000) (hw : H - L ≤ 10) (hl : -1000000000 ≤ L) (hh : H ≤ 1000000000) (lh : L ≤ H)
  (ev : (vl, vh, (0 : Int)) = (if a < 0 then (H * a / 1000000000, -(-(L * a) / 1000000000), 0) else (L * a / 1000000000, -(-(H * a) / 1000000000), 0))) : vh - vl ≤ (if a < 0 then -a else a) / 100000000 + 2 ∧ -1000000000 ≤ vl ∧ vh ≤ 1000000000 ∧ vl ≤ vh := by
 by_cases c : a < 0
 ·rw [if_pos c] at ev ⊢
  injection ev with e1 ev
  injection ev with e2 _
  have k1 := Int.mul_le_mul_of_nonneg_right hw (show 0 ≤ -a by omega)
  have k2 := Int.mul_le_mul_of_nonneg_right hl (show 0 ≤ -a by omega)
  have k3 := Int.mul_le_mul_of_nonneg_right hh (show 0 ≤ -a by omega)
  have k4 := Int.mul_le_mul_of_nonneg_right lh (show 0 ≤ -a by omega)
  rw [Int.sub_mul, Int.mul_neg, Int.mul_neg] at k1
  rw [Int.mul_neg, Int.mul_neg] at k2 k3 k4
  generalize L * a = X at *
  generalize H * a = Y at *
  refine ⟨?_, ?_, ?_, ?_⟩ <;> omega
 ·rw [if_neg c] at ev ⊢
  injection ev with e1 ev
  injection ev with e2 _
  have k1 := Int.mul_le_mul_of_nonneg_right hw (show 0 ≤ a by omega)
  have k2 := Int.mul_le_mul_of_nonneg_right hl (show 0 ≤ a by omega)
  have k3 := Int.mul_le_mul_of_nonneg_right hh (show 0 ≤ a by omega)
  have k4 := Int.mul_le_mul_of_nonneg_right lh (show 0 ≤ a by omega)
  rw [Int.sub_mul] at k1
  generalize L * a = X at *
  generalize H * a = Y at *
  refine ⟨?_, ?_, ?_, ?_⟩ <;> omega
theorem holds_le {L H lo hi : Int} (A : Holds L H lo hi) (h : lo ≤ hi) : L ≤ H := by
 obtain ⟨a, b⟩ := A.tell (lo * 1000000) (by omega) (by omega)
 exact int_of_rat (Rat.le_trans a b)
theorem term_ev {x : S71} (hx : ¬ bad x) {t : Int} (t1 : -345600000000000 ≤ t) (t2 : t < 345600086400000) : ∃ L H vl vh s c p, Ev (fun k => series_Turned.f k x.f2 t) (arg x.f2 t) ∧ Ev (fun k => trig_SinOver.f k (arg x.f2 t / 1000000 + x.f1) (arg x.f2 t / 1000000 + x.f1 + 1)) (L, H, 0) ∧ Ev (fun k => interval_Scale.f k L H x.f0 1000000000) (vl, vh, 0) ∧
  Ev (fun k => ephemerisref2_Arg.f k x.f2 t) (arg x.f2 t) ∧ Ev (fun k => ephemerisref2_SinCos.f k (arg x.f2 t + x.f1 * 1000000)) (s, c) ∧ ephemerisref2_Part.f x.f0 s = some p ∧
  vl * 1048576 ≤ p + 4 ∧ p ≤ vh * 1048576 + 4 ∧ vh - vl ≤ qb x ∧ -1000000000 ≤ vl ∧ vh ≤ 1000000000 ∧ vl ≤ vh ∧ -1100000000000000 ≤ p ∧ p ≤ 1100000000000000 := by
 unfold bad at hx
 obtain ⟨g0, g1⟩ := arg_bound x.f2 t
 have e1 := turned_ev (r := x.f2) (by omega) (by omega) t1 t2
 have e2 := arg_ev (r := x.f2) (by omega) (by omega) t1 t2
 obtain ⟨L, H, e3, A⟩ := over_ev (lo := arg x.f2 t / 1000000 + x.f1) (hi := arg x.f2 t / 1000000 + x.f1 + 1) (by omega) (by omega) (by omega)
 obtain ⟨s, c, e4, ⟨s1, s2⟩, _, ⟨s5, s6⟩, _⟩ := sincos_ev2 (a := arg x.f2 t + x.f1 * 1000000) (by omega)
 obtain ⟨p, e5, p1, p2, p3, p4⟩ := part_any (a := x.f0) (s := s) (by omega) (by omega) s5 s6
 obtain ⟨w1, w2⟩ := holds_whole A (t := arg x.f2 t + x.f1 * 1000000) (by omega) (by omega) s1 s2 s5 s6
 have lh := holds_le A (by omega)
 have l1 := A.lo1
 have l2 := A.hi1
 have wd := A.wide (by omega)
 have b : ∀ z, -1000000000 ≤ z → z ≤ 1000000000 → -1000000000000000000 ≤ z * x.f0 ∧ z * x.f0 ≤ 1000000000000000000 := by
  intro z z1 z2
  rcases Int.lt_or_le x.f0 0 with n | n
  ·have k1 := Int.mul_le_mul_of_nonneg_right z1 (show 0 ≤ -x.f0 by omega)
   have k2 := Int.mul_le_mul_of_nonneg_right z2 (show 0 ≤ -x.f0 by omega)
   rw [Int.mul_neg, Int.mul_neg] at k1 k2
   constructor <;> omega
  ·have k1 := Int.mul_le_mul_of_nonneg_right z1 n
   have k2 := Int.mul_le_mul_of_nonneg_right z2 n
   constructor <;> omega
 obtain ⟨b1, b2⟩ := b L l1 (by omega)
 obtain ⟨b3, b4⟩ := b H (by omega) l2
 have e6 := scale_ev (lo := L) (hi := H) (num := x.f0) (den := 1000000000) (by omega) lh (by omega) (by omega) (by omega) (by omega) (by omega) (by omega) (by omega) (by omega) (by omega)
 have hv : ∃ vl vh, (vl, vh, (0 : Int)) = (if x.f0 < 0 then (H * x.f0 / 1000000000, -(-(L * x.f0) / 1000000000), 0) else (L * x.f0 / 1000000000, -(-(H * x.f0) / 1000000000), 0)) := by
  by_cases n : x.f0 < 0
  ·rw [if_pos n]; exact ⟨_, _, rfl⟩
  ·rw [if_neg n]; exact ⟨_, _, rfl⟩
 obtain ⟨vl, vh, hv⟩ := hv
 rw [← hv] at e6
 obtain ⟨q1, q2⟩ := term_in (by omega) (by omega) w1 w2 p1 p2 hv
 obtain ⟨q3, q4, q5, q6⟩ := term_wide (by omega) (by omega) (by omega) l1 l2 lh hv
 exact ⟨L, H, vl, vh, s, c, p, e1, e3, e6, e2, e4, e5, q1, q2, q3, q4, q5, q6, p3, p4⟩
def qs : List S71 → Int
 | [] => 0
 | x :: t => qb x + qs t
theorem sums_ev {t : Int} (t1 : -345600000000000 ≤ t) (t2 : t < 345600086400000) (l : List S71) (hl : l.length ≤ 40) (hg : ∀ x ∈ l, ¬ bad x) : ∀ (r : List S71) (i : Int), 0 ≤ i → l.drop i.toNat = r → ∃ dl dh dp : Int, dl * 1048576 ≤ dp + 4 * (r.length : Int) ∧ dp ≤ dh * 1048576 + 4 * (r.length : Int) ∧ dh - dl ≤ qs r ∧ -1000000000 * (r.length : Int) ≤ dl ∧ dh ≤ 1000000000 * (r.length : Int) ∧ dl ≤ dh ∧ -1100000000000000 * (r.length : Int) ≤ dp ∧ dp ≤ 1100000000000000 * (r.length : Int) ∧
  ∀ lo hi n, -41200000000 + 1000000000 * (r.length : Int) ≤ lo → lo ≤ 41200000000 - 1000000000 * (r.length : Int) → -41200000000 + 1000000000 * (r.length : Int) ≤ hi → hi ≤ 41200000000 - 1000000000 * (r.length : Int) → -45100000000000000 + 1100000000000000 * (r.length : Int) ≤ n → n ≤ 45100000000000000 - 1100000000000000 * (r.length : Int) →
   Ev (fun k => series_sum.l0 k t l (l.length : Int) i lo hi) (lo + dl, hi + dh) ∧ Ev (fun k => ephemerisref2_Sum.l0 k t n l (l.length : Int) i) (n + dp) := by
 intro r
 induction r with
 | nil =>
  intro i h0 hd
  have hle := drop_nil h0 hd
  refine ⟨0, 0, 0, by simp, by simp, by simp [qs], by simp, by simp, by omega, by simp, by simp, fun lo hi n _ _ _ _ _ _ => ⟨ev_some 1 fun k => ?_, ev_some 1 fun k => ?_⟩⟩
  ·rw [series_sum.l0, if_neg (by omega), Int.add_zero, Int.add_zero]
  ·rw [ephemerisref2_Sum.l0, if_neg (by omega), Int.add_zero]
 | cons s r ih =>
  intro i h0 hd
  obtain ⟨hlt, hs, ht⟩ := drop_cons z71 h0 hd
  have hs' : rd_T71 l i = s := hs
  have a9 : wrap64 (i + 1) = i + 1 := w64 (by omega) (by omega)
  have hb := hg s (drop_mem hd)
  obtain ⟨L, H, vl, vh, sn, c, p, e1, e3, e6, e2, e4, e5, q1, q2, q3, q4, q5, q6, q7, q8⟩ := term_ev hb t1 t2
  obtain ⟨dl, dh, dp, d1, d2, d3, d4, d5, d6, d7, d8, run⟩ := ih (i + 1) (by omega) ht
  obtain ⟨g0, g1⟩ := arg_bound s.f2 t
  have hf1 : 0 ≤ s.f1 ∧ s.f1 < 1000000000 := by unfold bad at hb; omega
  have hlen : r.length ≤ 39 := by
   have := congrArg List.length hd
   rw [List.length_drop, List.length_cons] at this
   omega
  have hlc : ((s :: r).length : Int) = (r.length : Int) + 1 := by rw [List.length_cons]; push_cast; rfl
  rw [hlc]
  have hqs : qs (s :: r) = qb s + qs r := rfl
  rw [hqs]
  refine ⟨vl + dl, vh + dh, p + dp, by omega, by omega, by omega, by omega, by omega, by omega, by omega, by omega, fun lo hi n b1 b2 b3 b4 b5 b6 => ?_⟩
  obtain ⟨r1, r2⟩ := run (lo + vl) (hi + vh) (n + p) (by omega) (by omega) (by omega) (by omega) (by omega) (by omega)
  constructor
  ·rw [Int.add_assoc, Int.add_assoc] at r1
   refine ev_step 1 (fun k => by rw [series_sum.l0, if_pos hlt, if_pos h0, if_pos hlt, hs', a9]) ?_
   refine ev_bind e1 ?_
   rw [Int.tdiv_eq_ediv_of_nonneg g0, w64 (x := arg s.f2 t / 1000000) (by omega) (by omega), w64 (x := arg s.f2 t / 1000000 + s.f1) (by omega) (by omega), w64 (x := arg s.f2 t / 1000000 + s.f1 + 1) (by omega) (by omega)]
   refine ev_bind e3 (ev_bind e6 ?_)
   rw [w64 (x := lo + vl) (by omega) (by omega), w64 (x := hi + vh) (by omega) (by omega)]
   exact r1
  ·rw [Int.add_assoc] at r2
   refine ev_step 1 (fun k => by rw [ephemerisref2_Sum.l0, if_pos hlt, if_pos h0, if_pos hlt, hs', a9]) ?_
   refine ev_bind e2 ?_
   rw [w64 (x := s.f1 * 1000000) (by omega) (by omega), w64 (x := arg s.f2 t + s.f1 * 1000000) (by omega) (by omega)]
   refine ev_bind e4 ?_
   refine Ev.congr (fun k => by rw [e5, Option.bind_some, w64 (x := n + p) (by omega) (by omega)]) r2
theorem sum_ev {m b d t : Int} {l : List S71} (t1 : -345600000000000 ≤ t) (t2 : t < 345600086400000) (h : se m b l d = 0) : ∃ vl vh n, Ev (fun k => series_sum.f k m b l d t) (vl, vh) ∧ Ev (fun k => ephemerisref2_Sum.f k m b l d t) n ∧ vl * 1048576 + d * 1048576 ≤ n + 160 ∧ n + d * 1048576 ≤ vh * 1048576 + 160 ∧ vh - vl ≤ 2 * d + qs l ∧ vl + 2 * d ≤ vh ∧
  -41200000000 ≤ vl ∧ vh ≤ 41200000000 ∧ -45100000000000000 ≤ n ∧ n ≤ 45100000000000000 := by
 obtain ⟨h1, h2, h3⟩ := se_zero h
 unfold hb at h2
 obtain ⟨dl, dh, dp, d1, d2, d3, d4, d5, d6, d7, d8, run⟩ := sums_ev t1 t2 l h1 h3 l 0 (by omega) rfl
 obtain ⟨r1, r2⟩ := run (m - d) (m + d) (m * 1048576) (by omega) (by omega) (by omega) (by omega) (by omega) (by omega)
 refine ⟨m - d + dl, m + d + dh, m * 1048576 + dp, ?_, ?_, by omega, by omega, by omega, by omega, by omega, by omega, by omega, by omega⟩
 ·unfold series_sum.f
  rw [w64 (x := m - d) (by omega) (by omega), w64 (x := m + d) (by omega) (by omega)]
  exact r1
 ·unfold ephemerisref2_Sum.f
  rw [w64 (x := m * 1048576) (by omega) (by omega)]
  exact r2
def it (t : Int) : Int := if -345600000000000 ≤ t ∧ t < 345600086400000 then 0 else 3
theorem valid_at (t : Int) : series_Valid.f t = some (decide (-345600000000000 ≤ t ∧ t < 345600086400000)) := by
 unfold series_Valid.f
 by_cases c : t ≥ -345600000000000
 ·rw [if_pos c]
  by_cases d : t < 345600086400000
  ·rw [decide_eq_true d, decide_eq_true ⟨c, d⟩]
  ·rw [decide_eq_false d, decide_eq_false (by omega)]
 ·rw [if_neg c, decide_eq_false (by omega)]
theorem it_zero {t : Int} (h : it t = 0) : -345600000000000 ≤ t ∧ t < 345600086400000 := by
 unfold it at h
 split at h
 ·assumption
 ·cases h
def st2 (m b : Int) (l : List S71) (d t : Int) : Int := if se m b l d = 0 then it t else se m b l d
theorem check2_ev (m b : Int) (l : List S71) (d t : Int) : Ev (fun k => series_check.f k m b l d t) (st2 m b l d t) := by
 unfold series_check.f st2
 refine ev_bind (check_ev m b l d) ?_
 by_cases c : se m b l d = 0
 ·simp only [if_pos c]
  refine ev_some 0 fun k => ?_
  rw [valid_at, Option.bind_some]
  unfold it
  by_cases e : -345600000000000 ≤ t ∧ t < 345600086400000
  ·rw [decide_eq_true e, if_pos rfl, if_pos e]
  ·rw [decide_eq_false e, if_neg (by simp), if_neg e]
 ·simp only [if_neg c]
  exact ev_some 0 fun k => rfl
theorem st2_zero {m b d t : Int} {l : List S71} (h : st2 m b l d t = 0) : se m b l d = 0 ∧ it t = 0 := by
 unfold st2 at h
 by_cases c : se m b l d = 0
 ·rw [if_pos c] at h; exact ⟨c, h⟩
 ·rw [if_neg c] at h; exact absurd h c
theorem sreduced_at {a b : Int} (h1 : -1000000000000000 ≤ a) (h2 : a ≤ 1000000000000000) (h3 : -1000000000000000 ≤ b) (h4 : b ≤ 1000000000000000) : series_Reduced.f a b = some (a % 1000000000, b - a / 1000000000 * 1000000000) := by
 unfold series_Reduced.f
 rw [floor_pos (by omega) (by omega), Option.bind_some, w64 (x := a / 1000000000 * 1000000000) (by omega) (by omega), w64 (x := a - a / 1000000000 * 1000000000) (by omega) (by omega), w64 (x := b - a / 1000000000 * 1000000000) (by omega) (by omega)]
 congr 2
 omega
theorem angle_ev {m b d t : Int} {l : List S71} (h : st2 m b l d t = 0) : ∃ al ah w, Ev (fun k => series_Angle.f k m b l d t) (al, ah, 0) ∧ Ev (fun k => ephemerisref2_Whole.f k m b l d t) (w % 1048576000000000) ∧ 0 ≤ al ∧ al < 1000000000 ∧ ah - al ≤ 2 * d + qs l + 1 ∧ al + 2 * d ≤ ah ∧
  (∃ z : Int, al * 1048576 + d * 1048576 ≤ w + z * 1048576000000000 + 160 ∧ w + z * 1048576000000000 + d * 1048576 ≤ ah * 1048576 + 160) := by
 obtain ⟨h1, h2⟩ := st2_zero h
 obtain ⟨i1, i2⟩ := it_zero h2
 obtain ⟨_, hb2, _⟩ := se_zero h1
 unfold hb at hb2
 obtain ⟨vl, vh, n, e1, e2, r1, r2, r3, r4, r5, r6, r7, r8⟩ := sum_ev i1 i2 h1
 have e3 := turned_ev (r := b) (t := t) (by omega) (by omega) i1 i2
 have e4 := arg_ev (r := b) (t := t) (by omega) (by omega) i1 i2
 obtain ⟨g0, g1⟩ := arg_bound b t
 generalize arg b t = A at *
 refine ⟨(vl + A / 1000000) % 1000000000, vh + A / 1000000 + 1 - (vl + A / 1000000) / 1000000000 * 1000000000, n + A / 1000000 * 1048576 + A % 1000000 * 1048576 / 1000000, ?_, ?_, by omega, by omega, by omega, by omega, ⟨-((vl + A / 1000000) / 1000000000), by omega, by omega⟩⟩
 ·unfold series_Angle.f
  simp only [Sx.ob_eq, Sx.oif_eq, i64_w]
  refine ev_bind (check2_ev m b l d t) ?_
  refine Ev.congr (fun k => if_neg (by simp [h])) ?_
  refine ev_bind e1 (ev_bind e3 ?_)
  refine ev_some 0 fun k => ?_
  rw [Int.tdiv_eq_ediv_of_nonneg g0, w64 (x := A / 1000000) (by omega) (by omega), w64 (x := vl + A / 1000000) (by omega) (by omega), w64 (x := vh + A / 1000000) (by omega) (by omega), w64 (x := vh + A / 1000000 + 1) (by omega) (by omega), sreduced_at (by omega) (by omega) (by omega) (by omega), Option.bind_some]
 ·unfold ephemerisref2_Whole.f
  refine ev_bind e4 (ev_bind e2 ?_)
  refine ev_some 0 fun k => ?_
  rw [Int.tdiv_eq_ediv_of_nonneg g0, Int.tmod_eq_emod_of_nonneg g0, w64 (x := A / 1000000) (by omega) (by omega), w64 (x := A / 1000000 * 1048576) (by omega) (by omega), w64 (x := n + A / 1000000 * 1048576) (by omega) (by omega), w64 (x := A % 1000000 * 1048576) (by omega) (by omega), Int.tdiv_eq_ediv_of_nonneg (by omega), w64 (x := A % 1000000 * 1048576 / 1000000) (by omega) (by omega), w64 (by omega) (by omega), mod_pos (by omega) (by omega), Option.bind_some]
end Go.Proofs.Ytmahlfjnejbcnaa.Vals
