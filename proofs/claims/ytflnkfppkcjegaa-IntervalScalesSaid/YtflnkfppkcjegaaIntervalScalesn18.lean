/- IntervalScales: Scale is the least interval around the scaled numbers. -/
import Derived.Test.YtflnkfppkcjegaaIntervalScalesn17
import Derived.Test.YtflnkfppkcjegaaIntervalScalesn14
import Derived.Test.YtflnkfppkcjegaaIntervalScalesn15
namespace Go.Proofs.Ytflnkfppkcjegaa.Pure
open Go.RowKit Go.Proofs.YtflnkfppkcjegaaW.PrintWords Go.Proofs.YtflnkfppkcjegaaW.PrintLast Go.Proofs.YtflnkfppkcjegaaW.PrintMore Go.Proofs.Ytflnkfppkcjegaa.Opn Go.Proofs.Ytflnkfppkcjegaa.PAll Go.Proofs.Ytflnkfppkcjegaa.Base
set_option linter.unusedVariables false
set_option linter.unusedSimpArgs false
/-- What an interval is found to be. -/
def sp (a b : Int) : Int := if a < -1000000000000000000 ∨ a > 1000000000000000000 ∨ b < -1000000000000000000 ∨ b > 1000000000000000000 then 3 else if b < a then 9 else 0
theorem spanErr_at (k : Nat) (a b : Int) : ephemerisref2_SpanErr.f (k + 1) a b = some (sp a b) := by
  unfold ephemerisref2_SpanErr.f sp
  by_cases c1 : a < -1000000000000000000
  · simp [c1, ephemerisref2_SpanErr.j0]
  by_cases c2 : a > 1000000000000000000
  · simp [c1, c2, ephemerisref2_SpanErr.j0]
  by_cases c3 : b < -1000000000000000000
  · simp [c1, c2, c3, ephemerisref2_SpanErr.j0]
  by_cases c4 : b > 1000000000000000000
  · simp [c1, c2, c3, c4, ephemerisref2_SpanErr.j0]
  by_cases c5 : b < a
  · simp [c1, c2, c3, c4, c5, ephemerisref2_SpanErr.j0]
  · simp [c1, c2, c3, c4, c5, ephemerisref2_SpanErr.j0]
theorem spanErr_ev (a b : Int) : Ev (fun k => ephemerisref2_SpanErr.f k a b) (sp a b) := ev_some 1 fun k => spanErr_at k a b
theorem out_at (a : Int) : interval_out.f a = some (decide (a < -1000000000000000000 ∨ a > 1000000000000000000)) := by
  unfold interval_out.f
  by_cases c : a < -1000000000000000000
  · simp [c]
  · simp [c]
theorem check_at (k : Nat) (a b : Int) : interval_Check.f (k + 1) a b = some (sp a b) := by
  unfold interval_Check.f sp
  rw [out_at, Option.bind_some, out_at]
  by_cases c1 : a < -1000000000000000000
  · simp [c1, interval_Check.j0]
  by_cases c2 : a > 1000000000000000000
  · simp [c1, c2, interval_Check.j0]
  by_cases c3 : b < -1000000000000000000
  · simp [c1, c2, c3, interval_Check.j0]
  by_cases c4 : b > 1000000000000000000
  · simp [c1, c2, c3, c4, interval_Check.j0]
  by_cases c5 : b < a
  · simp [c1, c2, c3, c4, c5, interval_Check.j0]
  · simp [c1, c2, c3, c4, c5, interval_Check.j0]
theorem sp_zero {a b : Int} (h : sp a b = 0) : -1000000000000000000 ≤ a ∧ a ≤ b ∧ b ≤ 1000000000000000000 := by
  unfold sp at h
  split at h
  · exact absurd h (by decide)
  · split at h
    · exact absurd h (by decide)
    · omega
theorem works_ev : Ev (fun k => ephemerislaw2_intervalWorks.f k) true := Ev.of ephemerislaw2_intervalWorks.mono (k := 30) (by decide +kernel)
open Go Go.Proofs.Ytflnkfppkcjegaa.WideN Go.Proofs.Ytflnkfppkcjegaa.WideT
theorem none_same (x : Int) : ephemerislaw2_none.f 0 0 x x = some true := by unfold ephemerislaw2_none.f; rw [if_pos rfl]; rfl
theorem abs_at (q : Int) (h1 : -2000000000000000000 ≤ q) (h2 : q ≤ 2000000000000000000) : interval_abs.f q = some (if q < 0 then -q else q) := by
  unfold interval_abs.f
  by_cases c : q < 0
  · rw [if_pos c, if_pos c, w64 (by omega) (by omega)]
  · rw [if_neg c, if_neg c]
theorem ilt_or (a b : Int) : a < b ∨ b ≤ a := by omega
/-- A quotient rounded down, by a positive number. -/
theorem floor_pos {a b : Int} (ha : -9223372036854775808 ≤ a ∧ a ≤ 9223372036854775807) (hb : 0 < b) : interval_Floor.f a b = some (a / b) := by
  have hd := Int.tdiv_eq_ediv (a := a) (b := b)
  have hm := Int.mul_tdiv_add_tmod a b
  have hs : b.sign = 1 := Int.sign_eq_one_of_pos hb
  have h1 : b * (a / b) ≤ a := Int.mul_ediv_self_le (by omega)
  have h2 : a < b * (a / b) + b := Int.lt_mul_ediv_self_add hb
  have h3 : -9223372036854775808 ≤ a / b := by
    rcases ilt_or (a / b) (-9223372036854775808) with h | h
    · have : b * (a / b) ≤ 1 * (a / b) := Int.mul_le_mul_of_nonpos_right (by omega) (by omega)
      have h5 : b * (a / b) + b ≤ a / b + 1 := by
        have : b * (a / b + 1) ≤ 1 * (a / b + 1) := Int.mul_le_mul_of_nonpos_right (by omega) (by omega)
        rw [Int.mul_add, Int.mul_one] at this
        omega
      omega
    · exact h
  have h4 : a / b ≤ 9223372036854775807 := by
    rcases ilt_or 9223372036854775807 (a / b) with h | h
    · have : 1 * (a / b) ≤ b * (a / b) := Int.mul_le_mul_of_nonneg_right (by omega) (by omega)
      omega
    · exact h
  unfold interval_Floor.f
  rw [if_neg (by omega)]
  have hdec : decide (b < 0) = false := decide_eq_false (by omega)
  by_cases c : a.tmod b = 0
  · rw [if_pos c]
    have : b ∣ a := Int.dvd_of_tmod_eq_zero c
    rw [if_pos (Or.inr this)] at hd
    rw [hd, Int.add_zero, w64 h3 h4]
  · rw [if_neg c, hdec]
    have hnd : ¬ b ∣ a := fun h => c (Int.tmod_eq_zero_of_dvd h)
    by_cases c2 : a < 0
    · rw [if_pos (by simp [c2])]
      rw [if_neg (by rintro (h | h) <;> first | omega | exact hnd h), hs] at hd
      rw [hd, w64 (x := a / b + 1) (by omega) ?_, w64 (by omega) (by omega)]
      · congr 1; omega
      · rcases ilt_or 0 (a / b + 1) with h | h
        · have : b * 0 ≤ b * (a / b) := Int.mul_le_mul_of_nonneg_left (by omega) (by omega)
          omega
        · omega
    · rw [if_neg (by simp [c2])]
      rw [if_pos (Or.inl (by omega))] at hd
      rw [hd, Int.add_zero, w64 h3 h4]
theorem split_div (n num : Int) {den : Int} (hd : 0 < den) : n / den * num + (n - n / den * den) * num / den = n * num / den := by
  have e : n * num = (n - n / den * den) * num + n / den * num * den := by
    rw [Int.sub_mul]
    have : n / den * den * num = n / den * num * den := by rw [Int.mul_assoc, Int.mul_comm den num, Int.mul_assoc]
    rw [this]; omega
  rw [e, Int.add_mul_ediv_right _ _ (by omega)]
  omega
def B18 (x : Int) : Prop := -1000000000000000000 ≤ x ∧ x ≤ 1000000000000000000
instance (x : Int) : Decidable (B18 x) := by unfold B18; infer_instance
theorem bneg {x : Int} (h : B18 x) : B18 (-x) := by unfold B18 at *; omega
/-- part: a number times a fraction, rounded down, if that is a bound -/
theorem part_ev {n num den : Int} (hn : B18 n) (m1 : 0 ≤ num) (m2 : num ≤ 1000000000) (d1 : 1 ≤ den) (d2 : den ≤ 1000000000) :
    ∃ p : Int × Bool, Ev (fun k => interval_part.f k n num den) p ∧ (p.2 = true ↔ B18 (n * num / den)) ∧ (B18 (n * num / den) → p.1 = n * num / den) := by
  have hn' := hn
  unfold B18 at hn'
  have s := split_div n num (den := den) (by omega)
  have f1 := floor_pos (a := n) (b := den) (by omega) (by omega)
  have q1 : n / den * den ≤ n := Int.ediv_mul_le _ (by omega)
  have q2 : n < n / den * den + den := by
    have := Int.lt_ediv_add_one_mul_self n (show 0 < den by omega)
    rw [Int.add_mul, Int.one_mul] at this
    exact this
  have hq1 : n / den ≤ 1000000000000000000 := by
    rcases Int.lt_or_le n 0 with c | c
    · have := Int.ediv_neg_of_neg_of_pos c (show 0 < den by omega); omega
    · have := Int.ediv_le_self den c; omega
  have hq2 : -1000000000000000000 ≤ n / den := Int.le_ediv_of_mul_le (by omega) (by have := Int.mul_le_mul_of_nonneg_left d1 (show (0 : Int) ≤ 1000000000000000000 by omega); omega)
  generalize n * num / den = r at *
  generalize n / den = q at *
  have e1 : wrap64 (q * den) = q * den := by generalize q * den = z at *; exact w64 (by omega) (by omega)
  have k1 : (0 : Int) ≤ (n - q * den) * num := Int.mul_nonneg (by omega) m1
  have k2 : (n - q * den) * num ≤ 1000000000 * num := Int.mul_le_mul_of_nonneg_right (by omega) m1
  have e2 : wrap64 (n - q * den) = n - q * den := by generalize q * den = z at *; exact w64 (by omega) (by omega)
  obtain ⟨v, hv⟩ : ∃ v, (n - q * den) * num = v := ⟨_, rfl⟩
  rw [hv] at k1 k2 s
  have v0 : 0 ≤ v / den := Int.ediv_nonneg k1 (by omega)
  have v2 : v / den ≤ num := Int.ediv_le_of_le_mul (by omega) (by
    have : (n - q * den) * num ≤ den * num := Int.mul_le_mul_of_nonneg_right (by omega) m1
    rw [hv, Int.mul_comm den] at this
    exact this)
  have f2 := floor_pos (a := v) (b := den) (by omega) (by omega)
  have go : -2000000000000000000 ≤ q * num → q * num ≤ 2000000000000000000 → Ev (fun k => interval_part.j0 k n num den q false) (r, !(decide (r < -1000000000000000000 ∨ r > 1000000000000000000))) := by
    intro g1 g2
    refine ev_some 1 fun k => ?_
    rw [interval_part.j0, if_neg (by simp), e1, e2, hv, w64 (x := v) (by omega) (by omega), f2, Option.bind_some, w64 (x := q * num) (by omega) (by omega), s, w64 (x := r) (by omega) (by omega), out_at, Option.bind_some]
  have fin : ∀ b : Bool, b = !(decide (r < -1000000000000000000 ∨ r > 1000000000000000000)) → (b = true ↔ B18 r) := by
    intro b hb
    rw [hb]
    unfold B18
    by_cases c : r < -1000000000000000000 ∨ r > 1000000000000000000
    · rw [decide_eq_true c]; simp; omega
    · rw [decide_eq_false c]; simp; omega
  unfold interval_part.f
  by_cases c : num = 0
  · refine ⟨(r, !(decide (r < -1000000000000000000 ∨ r > 1000000000000000000))), ?_, fin _ rfl, fun _ => rfl⟩
    refine ev_bind (ev_some 0 fun k => f1) ?_
    exact Ev.congr (fun k => if_pos c) (go (by rw [c]; omega) (by rw [c]; omega))
  · have hq := abs_at q (by omega) (by omega)
    have w : wrap64 (2000000000000000000 / num) = 2000000000000000000 / num := w64 (Int.le_trans (by omega) (Int.ediv_nonneg (by omega) m1)) (Int.le_trans (Int.ediv_le_self _ (by omega)) (by omega))
    have am : (if q < 0 then -q else q) ≤ 2000000000000000000 / num ↔ (if q < 0 then -q else q) * num ≤ 2000000000000000000 := Int.le_ediv_iff_mul_le (by omega)
    by_cases d : (if q < 0 then -q else q) > 2000000000000000000 / num
    · refine ⟨(0, false), ?_, ?_, ?_⟩
      · refine ev_bind (ev_some 0 fun k => f1) ?_
        refine Ev.congr (fun k => by rw [if_neg c, hq, Option.bind_some, w, decide_eq_true d]) ?_
        exact ev_some 1 fun k => by rw [interval_part.j0, if_pos rfl]
      all_goals
        have big : ¬ (if q < 0 then -q else q) * num ≤ 2000000000000000000 := fun h => by have := am.2 h; omega
        have nb : ¬ B18 r := by
          unfold B18
          by_cases e : q < 0
          · rw [if_pos e, Int.neg_mul] at big; omega
          · rw [if_neg e] at big; omega
      · simp [nb]
      · intro h; exact absurd h nb
    · refine ⟨(r, !(decide (r < -1000000000000000000 ∨ r > 1000000000000000000))), ?_, fin _ rfl, fun _ => rfl⟩
      refine ev_bind (ev_some 0 fun k => f1) ?_
      refine Ev.congr (fun k => by rw [if_neg c, hq, Option.bind_some, w, decide_eq_false d]) ?_
      have sm := am.1 (by omega)
      refine go ?_ ?_
      · by_cases e : q < 0
        · rw [if_pos e, Int.neg_mul] at sm; omega
        · have := Int.mul_nonneg (show 0 ≤ q by omega) m1; omega
      · by_cases e : q < 0
        · have := Int.mul_nonneg (show 0 ≤ -q by omega) m1; rw [Int.neg_mul] at this; omega
        · rw [if_neg e] at sm; exact sm
theorem sg_gt {x : Int} : sg x > 0 ↔ x > 0 := by unfold sg; split <;> (try split) <;> omega
theorem sg_lt {x : Int} : sg x < 0 ↔ x < 0 := by unfold sg; split <;> (try split) <;> omega
theorem sg_le {x : Int} : sg x ≤ 0 ↔ x ≤ 0 := by unfold sg; split <;> (try split) <;> omega
theorem sg_ge {x : Int} : sg x ≥ 0 ↔ x ≥ 0 := by unfold sg; split <;> (try split) <;> omega
/-- what Scale tells: of l times m and h times m, m not negative -/
def sc (L H den : Int) : Int × Int × Int := if B18 (L / den) ∧ B18 ((-H) / den) then (L / den, -((-H) / den), 0) else (0, 0, 14)
theorem scale_ev {a0 a1 num den : Int} (h0 : B18 a0) (h1 : B18 a1) (z : sp a0 a1 = 0) (m1 : -1000000000 ≤ num) (m2 : num ≤ 1000000000) (d1 : 1 ≤ den) (d2 : den ≤ 1000000000) :
    Ev (fun k => interval_Scale.f k a0 a1 num den) (if num < 0 then sc (a1 * num) (a0 * num) den else sc (a0 * num) (a1 * num) den) := by
  have ck : Ev (fun k => interval_Check.f k a0 a1) 0 := by have := ev_some (g := fun k => interval_Check.f k a0 a1) 1 fun k => check_at k a0 a1; rwa [z] at this
  unfold interval_Scale.f
  refine ob_ev ck ?_
  refine Ev.congr (fun k => oif_neg (by simp)) ?_
  refine Ev.congr (fun k => oif_neg (by rw [decide_eq_true_eq]; omega)) ?_
  refine Ev.congr (fun k => oif_neg (by rw [decide_eq_true_eq]; omega)) ?_
  refine Ev.congr (fun k => oif_neg (by rw [decide_eq_true_eq]; omega)) ?_
  refine Ev.congr (fun k => oif_neg (by rw [decide_eq_true_eq]; omega)) ?_
  have fin : ∀ (x y : Int × Bool) (L H : Int), (x.2 = true ↔ B18 (L / den)) → (B18 (L / den) → x.1 = L / den) → (y.2 = true ↔ B18 ((-H) / den)) → (B18 ((-H) / den) → y.1 = (-H) / den) →
      Sx.oif ((!x.2) = true) (some ((0 : Int), (0 : Int), (14 : Int))) (Sx.oif ((!y.2) = true) (some (0, 0, 14)) (some (x.1, IntKind.i64.wrap (0 - y.1), 0))) = some (sc L H den) := by
    intro x y L H x1 x2 y1 y2
    unfold sc
    by_cases c : B18 (L / den)
    · rw [oif_neg (by rw [x1.2 c]; simp)]
      by_cases d : B18 ((-H) / den)
      · rw [oif_neg (by rw [y1.2 d]; simp), if_pos ⟨c, d⟩, x2 c, y2 d, iw, w64 (by unfold B18 at d; omega) (by unfold B18 at d; omega), Int.zero_sub]
      · rw [oif_pos (by cases e : y.2 <;> simp_all), if_neg (fun h => d h.2)]
    · rw [oif_pos (by cases e : x.2 <;> simp_all), if_neg (fun h => c h.1)]
  have w0 : IntKind.i64.wrap (0 - a0) = -a0 := by unfold B18 at h0; rw [iw, w64 (by omega) (by omega)]; omega
  have w1 : IntKind.i64.wrap (0 - a1) = -a1 := by unfold B18 at h1; rw [iw, w64 (by omega) (by omega)]; omega
  have w2 : IntKind.i64.wrap (0 - num) = -num := by rw [iw, w64 (by omega) (by omega)]; omega
  have w3 : IntKind.i64.wrap (0 - -a0) = a0 := by unfold B18 at h0; rw [iw, w64 (by omega) (by omega)]; omega
  by_cases c : num < 0
  · refine Ev.congr (fun k => oif_pos (by rw [decide_eq_true_eq]; exact c)) ?_
    rw [if_pos c, w0, w1, w2, w3]
    obtain ⟨x, ex, x1, x2⟩ := part_ev (n := -a1) (num := -num) (den := den) (bneg h1) (by omega) (by omega) d1 d2
    obtain ⟨y, ey, y1, y2⟩ := part_ev (n := a0) (num := -num) (den := den) h0 (by omega) (by omega) d1 d2
    rw [Int.neg_mul_neg] at x1 x2
    rw [Int.mul_neg] at y1 y2
    exact ob_ev ex (ob_ev ey (ev_some 0 fun k => fin x y _ _ x1 x2 y1 y2))
  · refine Ev.congr (fun k => oif_neg (by rw [decide_eq_true_eq]; exact c)) ?_
    rw [if_neg c, w1]
    obtain ⟨x, ex, x1, x2⟩ := part_ev (n := a0) (num := num) (den := den) h0 (by omega) (by omega) d1 d2
    obtain ⟨y, ey, y1, y2⟩ := part_ev (n := -a1) (num := num) (den := den) (bneg h1) (by omega) (by omega) d1 d2
    rw [Int.neg_mul] at y1 y2
    exact ob_ev ex (ob_ev ey (ev_some 0 fun k => fin x y _ _ x1 x2 y1 y2))
/-- the law's tests, behind the products of the ends -/
theorem tail_ev {den L H : Int} {l h : WT} (d1 : 1 ≤ den) (d2 : den ≤ 1000000000) (hl : WD l L) (hh : WD h H) (le : L ≤ H) (t : Int × Int × Int) (ht : t = sc L H den) :
    Ev (fun k => Sx.ob (ephemerisref2_Product.f k (-1000000000000000000) den) fun t11 =>
        Sx.ob (ephemerisref2_Compare.f k l.1 l.2.1 l.2.2.1 l.2.2.2.1 l.2.2.2.2.1 l.2.2.2.2.2.1 l.2.2.2.2.2.2 t11.1 t11.2.1 t11.2.2.1 t11.2.2.2.1 t11.2.2.2.2.1 t11.2.2.2.2.2.1 t11.2.2.2.2.2.2) fun t12 =>
        Sx.oif (decide (t12 < 0) = true) (Sx.ob (ephemerislaw2_none.f t.1 t.2.1 t.2.2 14) fun t13 => some t13) (
         Sx.ob (ephemerisref2_Product.f k 1000000000000000000 den) fun t14 =>
         Sx.ob (ephemerisref2_Compare.f k h.1 h.2.1 h.2.2.1 h.2.2.2.1 h.2.2.2.2.1 h.2.2.2.2.2.1 h.2.2.2.2.2.2 t14.1 t14.2.1 t14.2.2.1 t14.2.2.2.1 t14.2.2.2.2.1 t14.2.2.2.2.2.1 t14.2.2.2.2.2.2) fun t15 =>
         Sx.oif (decide (t15 > 0) = true) (Sx.ob (ephemerislaw2_none.f t.1 t.2.1 t.2.2 14) fun t16 => some t16) (
          Sx.oif ((t.2.2 == 0) = true) (
           Sx.ob (ephemerisref2_Product.f k t.1 den) fun t17 =>
           Sx.ob (ephemerisref2_Compare.f k t17.1 t17.2.1 t17.2.2.1 t17.2.2.2.1 t17.2.2.2.2.1 t17.2.2.2.2.2.1 t17.2.2.2.2.2.2 l.1 l.2.1 l.2.2.1 l.2.2.2.1 l.2.2.2.2.1 l.2.2.2.2.2.1 l.2.2.2.2.2.2) fun t18 =>
           Sx.oif (decide (t18 ≤ 0) = true) (
            Sx.ob (ephemerisref2_Product.f k (IntKind.i64.wrap (t.1 + 1)) den) fun t19 =>
            Sx.ob (ephemerisref2_Compare.f k t19.1 t19.2.1 t19.2.2.1 t19.2.2.2.1 t19.2.2.2.2.1 t19.2.2.2.2.2.1 t19.2.2.2.2.2.2 l.1 l.2.1 l.2.2.1 l.2.2.2.1 l.2.2.2.2.1 l.2.2.2.2.2.1 l.2.2.2.2.2.2) fun t20 =>
            Sx.oif (decide (t20 > 0) = true) (
             Sx.ob (ephemerisref2_Product.f k t.2.1 den) fun t21 =>
             Sx.ob (ephemerisref2_Compare.f k t21.1 t21.2.1 t21.2.2.1 t21.2.2.2.1 t21.2.2.2.2.1 t21.2.2.2.2.2.1 t21.2.2.2.2.2.2 h.1 h.2.1 h.2.2.1 h.2.2.2.1 h.2.2.2.2.1 h.2.2.2.2.2.1 h.2.2.2.2.2.2) fun t22 =>
             Sx.oif (decide (t22 ≥ 0) = true) (
              Sx.ob (ephemerisref2_Product.f k (IntKind.i64.wrap (t.2.1 - 1)) den) fun t23 =>
              Sx.ob (ephemerisref2_Compare.f k t23.1 t23.2.1 t23.2.2.1 t23.2.2.2.1 t23.2.2.2.2.1 t23.2.2.2.2.2.1 t23.2.2.2.2.2.2 h.1 h.2.1 h.2.2.1 h.2.2.2.1 h.2.2.2.2.1 h.2.2.2.2.2.1 h.2.2.2.2.2.2) fun t24 =>
              some (decide (t24 < 0))) (some false)) (some false)) (some false)) (some false)))) true := by
  obtain ⟨w1, e1, g1⟩ := product_ev (a := -1000000000000000000) (b := den) (by omega) (by omega) (by omega) (by omega)
  obtain ⟨w2, e2, g2⟩ := product_ev (a := 1000000000000000000) (b := den) (by omega) (by omega) (by omega) (by omega)
  have lo_iff : -1000000000000000000 ≤ L / den ↔ -1000000000000000000 * den ≤ L := Int.le_ediv_iff_mul_le (by omega)
  have hi_iff : -1000000000000000000 ≤ (-H) / den ↔ -1000000000000000000 * den ≤ -H := Int.le_ediv_iff_mul_le (by omega)
  have mono1 : L / den ≤ H / den := Int.ediv_le_ediv (by omega) le
  have mono2 : (-H) / den ≤ (-L) / den := Int.ediv_le_ediv (by omega) (by omega)
  have up1 : H ≤ 1000000000000000000 * den → H / den ≤ 1000000000000000000 := fun h => Int.ediv_le_of_le_mul (by omega) h
  have up2 : -L ≤ 1000000000000000000 * den → (-L) / den ≤ 1000000000000000000 := fun h => Int.ediv_le_of_le_mul (by omega) h
  have none14 : ∀ {k : Nat}, ¬ (B18 (L / den) ∧ B18 ((-H) / den)) → Sx.ob (ephemerislaw2_none.f t.1 t.2.1 t.2.2 14) (fun t13 => some t13) = some true := by
    intro k hn
    rw [ht]; unfold sc; rw [if_neg hn, none_same]; rfl
  refine ob_ev e1 (ob_ev (compare_ev hl g1) ?_)
  by_cases c1 : L < -1000000000000000000 * den
  · refine Ev.congr (fun k => oif_pos (by rw [decide_eq_true_eq, sg_lt]; omega)) ?_
    refine ev_some 0 fun k => none14 (k := k) fun h => ?_
    have := lo_iff.1 h.1.1; omega
  refine Ev.congr (fun k => oif_neg (by rw [decide_eq_true_eq, sg_lt]; omega)) ?_
  refine ob_ev e2 (ob_ev (compare_ev hh g2) ?_)
  by_cases c2 : H > 1000000000000000000 * den
  · refine Ev.congr (fun k => oif_pos (by rw [decide_eq_true_eq, sg_gt]; omega)) ?_
    refine ev_some 0 fun k => none14 (k := k) fun h => ?_
    have := hi_iff.1 h.2.1; omega
  refine Ev.congr (fun k => oif_neg (by rw [decide_eq_true_eq, sg_gt]; omega)) ?_
  have b1 : B18 (L / den) := ⟨lo_iff.2 (by omega), by have := up1 (by omega); omega⟩
  have b2 : B18 ((-H) / den) := ⟨hi_iff.2 (by omega), by have := up2 (by omega); omega⟩
  rw [ht]
  unfold sc
  rw [if_pos ⟨b1, b2⟩]
  have a1 := Int.ediv_mul_le L (show den ≠ 0 by omega)
  have a2 := Int.lt_ediv_add_one_mul_self L (show 0 < den by omega)
  have a3 := Int.ediv_mul_le (-H) (show den ≠ 0 by omega)
  have a4 := Int.lt_ediv_add_one_mul_self (-H) (show 0 < den by omega)
  have a5 : (-((-H) / den)) * den = -((-H) / den * den) := Int.neg_mul _ _
  have a6 : (-((-H) / den) - 1) * den = -(((-H) / den + 1) * den) := by rw [← Int.neg_mul]; congr 1; omega
  unfold B18 at b1 b2
  generalize L / den = x at *
  generalize (-H) / den = y at *
  simp only
  rw [iw, iw, w64 (x := x + 1) (by omega) (by omega), w64 (x := -y - 1) (by omega) (by omega)]
  obtain ⟨w3, e3, g3⟩ := product_ev (a := x) (b := den) (by omega) (by omega) (by omega) (by omega)
  obtain ⟨w4, e4, g4⟩ := product_ev (a := x + 1) (b := den) (by omega) (by omega) (by omega) (by omega)
  obtain ⟨w5, e5, g5⟩ := product_ev (a := -y) (b := den) (by omega) (by omega) (by omega) (by omega)
  obtain ⟨w6, e6, g6⟩ := product_ev (a := -y - 1) (b := den) (by omega) (by omega) (by omega) (by omega)
  refine Ev.congr (fun k => oif_pos rfl) ?_
  refine ob_ev e3 (ob_ev (compare_ev g3 hl) ?_)
  refine Ev.congr (fun k => oif_pos (by rw [decide_eq_true_eq, sg_le]; omega)) ?_
  refine ob_ev e4 (ob_ev (compare_ev g4 hl) ?_)
  refine Ev.congr (fun k => oif_pos (by rw [decide_eq_true_eq, sg_gt]; omega)) ?_
  refine ob_ev e5 (ob_ev (compare_ev g5 hh) ?_)
  refine Ev.congr (fun k => oif_pos (by rw [decide_eq_true_eq, sg_ge]; omega)) ?_
  refine ob_ev e6 (ob_ev (compare_ev g6 hh) ?_)
  exact ev_some 0 fun k => congrArg some (decide_eq_true (by rw [sg_lt]; omega))
theorem beyond_at (a : Int) : ephemerislaw2_beyond.f a 1000000000 = some (decide (a < -1000000000 ∨ a > 1000000000)) := by
  unfold ephemerislaw2_beyond.f
  rw [w64 (x := -1000000000) (by omega) (by omega)]
  by_cases c : a < -1000000000
  · rw [if_pos c, decide_eq_true (Or.inl c)]
  · rw [if_neg c]
    by_cases d : a > 1000000000
    · rw [decide_eq_true d, decide_eq_true (Or.inr d)]
    · rw [decide_eq_false d, decide_eq_false (by omega)]
theorem scale_bad {a0 a1 num den : Int} (h : sp a0 a1 = 0) (hb : den < 1 ∨ den > 1000000000 ∨ num < -1000000000 ∨ num > 1000000000) : Ev (fun k => interval_Scale.f k a0 a1 num den) (0, 0, 1) := by
  have ck : Ev (fun k => interval_Check.f k a0 a1) 0 := by have := ev_some (g := fun k => interval_Check.f k a0 a1) 1 fun k => check_at k a0 a1; rwa [h] at this
  unfold interval_Scale.f
  refine ob_ev ck ?_
  refine ev_some 0 fun k => ?_
  rw [oif_neg (by simp)]
  by_cases c1 : den < 1
  · rw [oif_pos (by rw [decide_eq_true_eq]; exact c1)]
  rw [oif_neg (by rw [decide_eq_true_eq]; exact c1)]
  by_cases c2 : den > 1000000000
  · rw [oif_pos (by rw [decide_eq_true_eq]; exact c2)]
  rw [oif_neg (by rw [decide_eq_true_eq]; exact c2)]
  by_cases c3 : num < -1000000000
  · rw [oif_pos (by rw [decide_eq_true_eq]; exact c3)]
  rw [oif_neg (by rw [decide_eq_true_eq]; exact c3), oif_pos (by rw [decide_eq_true_eq]; omega)]
theorem IntervalScales : PureX := by
  intro s num den hs hn hd
  rcases s with ⟨a0, a1⟩
  refine ev_k ?_
  unfold ephemerislaw2_IntervalScales.f
  refine ob_ev works_ev ?_
  refine Ev.congr (fun k => oif_pos rfl) ?_
  show Ev (fun k => Sx.ob (interval_Scale.f k a0 a1 num den) _) true
  have se := spanErr_ev a0 a1
  by_cases z : sp a0 a1 = 0
  · rw [z] at se
    obtain ⟨x1, x2, x3⟩ := sp_zero z
    have h0 : B18 a0 := ⟨by omega, by omega⟩
    have h1 : B18 a1 := ⟨by omega, by omega⟩
    by_cases hb : den < 1 ∨ den > 1000000000 ∨ num < -1000000000 ∨ num > 1000000000
    · refine ob_ev (scale_bad z hb) (ob_ev se ?_)
      refine Ev.congr (fun k => oif_neg (by simp)) ?_
      have nn : Sx.ob (ephemerislaw2_none.f 0 0 1 1) (fun t => some t) = some true := by rw [none_same]; rfl
      refine ev_some 0 fun k => ?_
      by_cases c1 : den < 1
      · rw [oif_pos (by rw [decide_eq_true_eq]; exact c1)]; exact nn
      rw [oif_neg (by rw [decide_eq_true_eq]; exact c1)]
      by_cases c2 : den > 1000000000
      · rw [oif_pos (by rw [decide_eq_true_eq]; exact c2)]; exact nn
      rw [oif_neg (by rw [decide_eq_true_eq]; exact c2), beyond_at, decide_eq_true (show num < -1000000000 ∨ num > 1000000000 by omega), Sx.ob_eq, Option.bind_some, oif_pos rfl]
      exact nn
    · refine ob_ev (scale_ev h0 h1 z (by omega) (by omega) (by omega) (by omega)) (ob_ev se ?_)
      refine Ev.congr (fun k => oif_neg (by simp)) ?_
      refine Ev.congr (fun k => oif_neg (by rw [decide_eq_true_eq]; omega)) ?_
      refine Ev.congr (fun k => oif_neg (by rw [decide_eq_true_eq]; omega)) ?_
      have bf := beyond_at num
      rw [decide_eq_false (by omega)] at bf
      refine ob_ev (ev_some 0 fun k => bf) ?_
      refine Ev.congr (fun k => oif_neg (by simp)) ?_
      obtain ⟨w1, e1, g1⟩ := product_ev (a := a0) (b := num) (by omega) (by omega) (by omega) (by omega)
      obtain ⟨w2, e2, g2⟩ := product_ev (a := a1) (b := num) (by omega) (by omega) (by omega) (by omega)
      refine ob_ev e1 (ob_ev e2 ?_)
      by_cases c : num < 0
      · refine Ev.congr (fun k => oif_pos (by rw [decide_eq_true_eq]; exact c)) ?_
        rw [if_pos c]
        exact tail_ev (by omega) (by omega) g2 g1 (Int.mul_le_mul_of_nonpos_right x2 (by omega)) _ rfl
      · refine Ev.congr (fun k => oif_neg (by rw [decide_eq_true_eq]; exact c)) ?_
        rw [if_neg c]
        exact tail_ev (by omega) (by omega) g1 g2 (Int.mul_le_mul_of_nonneg_right x2 (by omega)) _ rfl
  · have e : Ev (fun k => interval_Scale.f k a0 a1 num den) (0, 0, sp a0 a1) := by
      unfold interval_Scale.f
      refine ob_ev (ev_some 1 fun k => check_at k a0 a1) ?_
      exact ev_some 0 fun k => by rw [oif_pos (by simpa using z)]
    refine ob_ev e (ob_ev se ?_)
    refine Ev.congr (fun k => oif_pos (by simpa using z)) ?_
    exact ev_some 0 fun k => by rw [none_same]; rfl
end Go.Proofs.Ytflnkfppkcjegaa.Pure
