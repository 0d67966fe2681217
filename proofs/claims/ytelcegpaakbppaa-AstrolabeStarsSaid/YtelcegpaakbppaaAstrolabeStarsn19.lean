/- Intervals of whole numbers: part, Scale, Div and Mul of the program, for all bounds. -/
import Derived.Test.YtelcegpaakbppaaAstrolabeStarsn2
import Derived.Test.YtelcegpaakbppaaAstrolabeStarsn7
import Derived.Test.YtelcegpaakbppaaAstrolabeStarsn8
import Derived.Test.YtelcegpaakbppaaAstrolabeStarsn9
import Derived.Test.YtelcegpaakbppaaAstrolabeStarsn12
import Derived.Test.YtelcegpaakbppaaAstrolabeStarsn18
namespace Go.Proofs.Ytelcegpaakbppaa.IvalG
open Go Go.RowKit Go.Proofs.YtelcegpaakbppaaW.PrintWords Go.Proofs.YtelcegpaakbppaaW.PrintLast Go.Proofs.YtelcegpaakbppaaW.PrintMore Go.Proofs.Ytelcegpaakbppaa.Opn Go.Proofs.Ytelcegpaakbppaa.PAll Go.Proofs.Ytelcegpaakbppaa.Base Go.Proofs.Ytelcegpaakbppaa.WideT
set_option linter.unusedVariables false
set_option linter.unusedSimpArgs false
/-- What an interval is found to be. -/
def sp (a b : Int) : Int := if a < -1000000000000000000 ∨ a > 1000000000000000000 ∨ b < -1000000000000000000 ∨ b > 1000000000000000000 then 3 else if b < a then 9 else 0
theorem out_at (a : Int) : interval_out.f a = some (decide (a < -1000000000000000000 ∨ a > 1000000000000000000)) := by
  unfold interval_out.f
  by_cases c : a < -1000000000000000000
  · simp [c]
  · simp [c]
theorem check_at (k : Nat) (a b : Int) : interval_Check.f (k + 1) a b = some (sp a b) := by
  unfold interval_Check.f sp
  rw [out_at, Option.bind_some, out_at]
  by_cases c1 : a < -1000000000000000000
  · simp [c1, interval_Check.j0]
  by_cases c2 : a > 1000000000000000000
  · simp [c1, c2, interval_Check.j0]
  by_cases c3 : b < -1000000000000000000
  · simp [c1, c2, c3, interval_Check.j0]
  by_cases c4 : b > 1000000000000000000
  · simp [c1, c2, c3, c4, interval_Check.j0]
  by_cases c5 : b < a
  · simp [c1, c2, c3, c4, c5, interval_Check.j0]
  · simp [c1, c2, c3, c4, c5, interval_Check.j0]
theorem sp_ok {a b : Int} (h1 : -1000000000000000000 ≤ a) (h2 : a ≤ b) (h3 : b ≤ 1000000000000000000) : sp a b = 0 := by
  unfold sp
  rw [if_neg (by omega), if_neg (by omega)]
def two (a b c d : Int) : Int := if sp a b = 0 then sp c d else sp a b
theorem both_ev (a b c d : Int) : Ev (fun k => interval_both.f k a b c d) (two a b c d) := by
  refine ev_some 1 fun k => ?_
  unfold interval_both.f two
  rw [check_at, Option.bind_some, check_at]
  split <;> rfl
theorem abs_at (q : Int) (h1 : -2000000000000000000 ≤ q) (h2 : q ≤ 2000000000000000000) : interval_abs.f q = some (if q < 0 then -q else q) := by
  unfold interval_abs.f
  by_cases c : q < 0
  · rw [if_pos c, if_pos c, w64 (by omega) (by omega)]
  · rw [if_neg c, if_neg c]
theorem ilt_or (a b : Int) : a < b ∨ b ≤ a := by omega
/-- A quotient rounded down, by a positive number. -/
theorem floor_pos {a b : Int} (ha : -9223372036854775808 ≤ a ∧ a ≤ 9223372036854775807) (hb : 0 < b) : interval_Floor.f a b = some (a / b) := by
  have hd := Int.tdiv_eq_ediv (a := a) (b := b)
  have hm := Int.mul_tdiv_add_tmod a b
  have hs : b.sign = 1 := Int.sign_eq_one_of_pos hb
  have h1 : b * (a / b) ≤ a := Int.mul_ediv_self_le (by omega)
  have h2 : a < b * (a / b) + b := Int.lt_mul_ediv_self_add hb
  have h3 : -9223372036854775808 ≤ a / b := by
    rcases ilt_or (a / b) (-9223372036854775808) with h | h
    · have : b * (a / b) ≤ 1 * (a / b) := Int.mul_le_mul_of_nonpos_right (by omega) (by omega)
      have h5 : b * (a / b) + b ≤ a / b + 1 := by
        have : b * (a / b + 1) ≤ 1 * (a / b + 1) := Int.mul_le_mul_of_nonpos_right (by omega) (by omega)
        rw [Int.mul_add, Int.mul_one] at this
        omega
      omega
    · exact h
  have h4 : a / b ≤ 9223372036854775807 := by
    rcases ilt_or 9223372036854775807 (a / b) with h | h
    · have : 1 * (a / b) ≤ b * (a / b) := Int.mul_le_mul_of_nonneg_right (by omega) (by omega)
      omega
    · exact h
  unfold interval_Floor.f
  rw [if_neg (by omega)]
  have hdec : decide (b < 0) = false := decide_eq_false (by omega)
  by_cases c : a.tmod b = 0
  · rw [if_pos c]
    have : b ∣ a := Int.dvd_of_tmod_eq_zero c
    rw [if_pos (Or.inr this)] at hd
    rw [hd, Int.add_zero, w64 h3 h4]
  · rw [if_neg c, hdec]
    have hnd : ¬ b ∣ a := fun h => c (Int.tmod_eq_zero_of_dvd h)
    by_cases c2 : a < 0
    · rw [if_pos (by simp [c2])]
      rw [if_neg (by rintro (h | h) <;> first | omega | exact hnd h), hs] at hd
      rw [hd, w64 (x := a / b + 1) (by omega) ?_, w64 (by omega) (by omega)]
      · congr 1; omega
      · rcases ilt_or 0 (a / b + 1) with h | h
        · have : b * 0 ≤ b * (a / b) := Int.mul_le_mul_of_nonneg_left (by omega) (by omega)
          omega
        · omega
    · rw [if_neg (by simp [c2])]
      rw [if_pos (Or.inl (by omega))] at hd
      rw [hd, Int.add_zero, w64 h3 h4]
theorem floor_neg {a b : Int} (ha : -9223372036854775807 ≤ a ∧ a ≤ 9223372036854775807) (hb : b < 0) : interval_Floor.f a b = some ((-a) / (-b)) := by
  have h := floor_pos (a := -a) (b := -b) (by omega) (by omega)
  rw [← h]
  unfold interval_Floor.f
  rw [if_neg (show ¬ b = 0 by omega), if_neg (show ¬ -b = 0 by omega), Int.tmod_neg, Int.neg_tmod, Int.tdiv_neg, Int.neg_tdiv, Int.neg_neg]
  by_cases c : a.tmod b = 0
  · rw [if_pos c, if_pos (show -(a.tmod b) = 0 by omega)]
  · rw [if_neg c, if_neg (show ¬ -(a.tmod b) = 0 by omega)]
    have a0 : a ≠ 0 := fun e => c (by rw [e]; exact Int.zero_tmod b)
    rcases Int.lt_or_le a 0 with d | d
    · rw [decide_eq_true d, decide_eq_true hb, decide_eq_false (show ¬ -a < 0 by omega), decide_eq_false (show ¬ -b < 0 by omega)]; rfl
    · rw [decide_eq_false (show ¬ a < 0 by omega), decide_eq_true hb, decide_eq_true (show -a < 0 by omega), decide_eq_false (show ¬ -b < 0 by omega)]; rfl
theorem split_div (n num : Int) {den : Int} (hd : 0 < den) : n / den * num + (n - n / den * den) * num / den = n * num / den := by
  have e : n * num = (n - n / den * den) * num + n / den * num * den := by
    rw [Int.sub_mul]
    have : n / den * den * num = n / den * num * den := by rw [Int.mul_assoc, Int.mul_comm den num, Int.mul_assoc]
    rw [this]; omega
  rw [e, Int.add_mul_ediv_right _ _ (by omega)]
  omega
def B18 (x : Int) : Prop := -1000000000000000000 ≤ x ∧ x ≤ 1000000000000000000
instance (x : Int) : Decidable (B18 x) := by unfold B18; infer_instance
theorem b18_w {x : Int} (h : B18 x) : -9223372036854775808 ≤ x ∧ x ≤ 9223372036854775807 := by unfold B18 at h; omega
theorem bneg {x : Int} (h : B18 x) : B18 (-x) := by unfold B18 at *; omega
/-- part: a number times a fraction, rounded down, if that is a bound -/
theorem part_ev {n num den : Int} (hn : B18 n) (m1 : 0 ≤ num) (m2 : num ≤ 1000000000) (d1 : 1 ≤ den) (d2 : den ≤ 1000000000) :
    ∃ p : Int × Bool, Ev (fun k => interval_part.f k n num den) p ∧ (p.2 = true ↔ B18 (n * num / den)) ∧ (B18 (n * num / den) → p.1 = n * num / den) := by
  have hn' := hn
  unfold B18 at hn'
  have s := split_div n num (den := den) (by omega)
  have f1 := floor_pos (a := n) (b := den) (by omega) (by omega)
  have q1 : n / den * den ≤ n := Int.ediv_mul_le _ (by omega)
  have q2 : n < n / den * den + den := by
    have := Int.lt_ediv_add_one_mul_self n (show 0 < den by omega)
    rw [Int.add_mul, Int.one_mul] at this
    exact this
  have hq1 : n / den ≤ 1000000000000000000 := by
    rcases Int.lt_or_le n 0 with c | c
    · have := Int.ediv_neg_of_neg_of_pos c (show 0 < den by omega); omega
    · have := Int.ediv_le_self den c; omega
  have hq2 : -1000000000000000000 ≤ n / den := Int.le_ediv_of_mul_le (by omega) (by have := Int.mul_le_mul_of_nonneg_left d1 (show (0 : Int) ≤ 1000000000000000000 by omega); omega)
  generalize n * num / den = r at *
  generalize n / den = q at *
  have e1 : wrap64 (q * den) = q * den := by generalize q * den = z at *; exact w64 (by omega) (by omega)
  have k1 : (0 : Int) ≤ (n - q * den) * num := Int.mul_nonneg (by omega) m1
  have k2 : (n - q * den) * num ≤ 1000000000 * num := Int.mul_le_mul_of_nonneg_right (by omega) m1
  have e2 : wrap64 (n - q * den) = n - q * den := by generalize q * den = z at *; exact w64 (by omega) (by omega)
  obtain ⟨v, hv⟩ : ∃ v, (n - q * den) * num = v := ⟨_, rfl⟩
  rw [hv] at k1 k2 s
  have v0 : 0 ≤ v / den := Int.ediv_nonneg k1 (by omega)
  have v2 : v / den ≤ num := Int.ediv_le_of_le_mul (by omega) (by
    have : (n - q * den) * num ≤ den * num := Int.mul_le_mul_of_nonneg_right (by omega) m1
    rw [hv, Int.mul_comm den] at this
    exact this)
  have f2 := floor_pos (a := v) (b := den) (by omega) (by omega)
  have go : -2000000000000000000 ≤ q * num → q * num ≤ 2000000000000000000 → Ev (fun k => interval_part.j0 k n num den q false) (r, !(decide (r < -1000000000000000000 ∨ r > 1000000000000000000))) := by
    intro g1 g2
    refine ev_some 1 fun k => ?_
    rw [interval_part.j0, if_neg (by simp), e1, e2, hv, w64 (x := v) (by omega) (by omega), f2, Option.bind_some, w64 (x := q * num) (by omega) (by omega), s, w64 (x := r) (by omega) (by omega), out_at, Option.bind_some]
  have fin : ∀ b : Bool, b = !(decide (r < -1000000000000000000 ∨ r > 1000000000000000000)) → (b = true ↔ B18 r) := by
    intro b hb
    rw [hb]
    unfold B18
    by_cases c : r < -1000000000000000000 ∨ r > 1000000000000000000
    · rw [decide_eq_true c]; simp; omega
    · rw [decide_eq_false c]; simp; omega
  unfold interval_part.f
  by_cases c : num = 0
  · refine ⟨(r, !(decide (r < -1000000000000000000 ∨ r > 1000000000000000000))), ?_, fin _ rfl, fun _ => rfl⟩
    refine ev_bind (ev_some 0 fun k => f1) ?_
    exact Ev.congr (fun k => if_pos c) (go (by rw [c]; omega) (by rw [c]; omega))
  · have hq := abs_at q (by omega) (by omega)
    have w : wrap64 (2000000000000000000 / num) = 2000000000000000000 / num := w64 (Int.le_trans (by omega) (Int.ediv_nonneg (by omega) m1)) (Int.le_trans (Int.ediv_le_self _ (by omega)) (by omega))
    have am : (if q < 0 then -q else q) ≤ 2000000000000000000 / num ↔ (if q < 0 then -q else q) * num ≤ 2000000000000000000 := Int.le_ediv_iff_mul_le (by omega)
    by_cases d : (if q < 0 then -q else q) > 2000000000000000000 / num
    · refine ⟨(0, false), ?_, ?_, ?_⟩
      · refine ev_bind (ev_some 0 fun k => f1) ?_
        refine Ev.congr (fun k => by rw [if_neg c, hq, Option.bind_some, w, decide_eq_true d]) ?_
        exact ev_some 1 fun k => by rw [interval_part.j0, if_pos rfl]
      all_goals
        have big : ¬ (if q < 0 then -q else q) * num ≤ 2000000000000000000 := fun h => by have := am.2 h; omega
        have nb : ¬ B18 r := by
          unfold B18
          by_cases e : q < 0
          · rw [if_pos e, Int.neg_mul] at big; omega
          · rw [if_neg e] at big; omega
      · simp [nb]
      · intro h; exact absurd h nb
    · refine ⟨(r, !(decide (r < -1000000000000000000 ∨ r > 1000000000000000000))), ?_, fin _ rfl, fun _ => rfl⟩
      refine ev_bind (ev_some 0 fun k => f1) ?_
      refine Ev.congr (fun k => by rw [if_neg c, hq, Option.bind_some, w, decide_eq_false d]) ?_
      have sm := am.1 (by omega)
      refine go ?_ ?_
      · by_cases e : q < 0
        · rw [if_pos e, Int.neg_mul] at sm; omega
        · have := Int.mul_nonneg (show 0 ≤ q by omega) m1; omega
      · by_cases e : q < 0
        · have := Int.mul_nonneg (show 0 ≤ -q by omega) m1; rw [Int.neg_mul] at this; omega
        · rw [if_neg e] at sm; exact sm
/-- what Scale tells: of l times m and h times m, m not negative -/
def sc (L H den : Int) : Int × Int × Int := if B18 (L / den) ∧ B18 ((-H) / den) then (L / den, -((-H) / den), 0) else (0, 0, 14)
theorem scale_ev {a0 a1 num den : Int} (h0 : B18 a0) (h1 : B18 a1) (z : sp a0 a1 = 0) (m1 : -1000000000 ≤ num) (m2 : num ≤ 1000000000) (d1 : 1 ≤ den) (d2 : den ≤ 1000000000) :
    Ev (fun k => interval_Scale.f k a0 a1 num den) (if num < 0 then sc (a1 * num) (a0 * num) den else sc (a0 * num) (a1 * num) den) := by
  have ck : Ev (fun k => interval_Check.f k a0 a1) 0 := by have := ev_some (g := fun k => interval_Check.f k a0 a1) 1 fun k => check_at k a0 a1; rwa [z] at this
  unfold interval_Scale.f
  refine ob_ev ck ?_
  refine Ev.congr (fun k => oif_neg (by simp)) ?_
  refine Ev.congr (fun k => oif_neg (by rw [decide_eq_true_eq]; omega)) ?_
  refine Ev.congr (fun k => oif_neg (by rw [decide_eq_true_eq]; omega)) ?_
  refine Ev.congr (fun k => oif_neg (by rw [decide_eq_true_eq]; omega)) ?_
  refine Ev.congr (fun k => oif_neg (by rw [decide_eq_true_eq]; omega)) ?_
  have fin : ∀ (x y : Int × Bool) (L H : Int), (x.2 = true ↔ B18 (L / den)) → (B18 (L / den) → x.1 = L / den) → (y.2 = true ↔ B18 ((-H) / den)) → (B18 ((-H) / den) → y.1 = (-H) / den) →
      Sx.oif ((!x.2) = true) (some ((0 : Int), (0 : Int), (14 : Int))) (Sx.oif ((!y.2) = true) (some (0, 0, 14)) (some (x.1, IntKind.i64.wrap (0 - y.1), 0))) = some (sc L H den) := by
    intro x y L H x1 x2 y1 y2
    unfold sc
    by_cases c : B18 (L / den)
    · rw [oif_neg (by rw [x1.2 c]; simp)]
      by_cases d : B18 ((-H) / den)
      · rw [oif_neg (by rw [y1.2 d]; simp), if_pos ⟨c, d⟩, x2 c, y2 d, iw, w64 (by unfold B18 at d; omega) (by unfold B18 at d; omega), Int.zero_sub]
      · rw [oif_pos (by cases e : y.2 <;> simp_all), if_neg (fun h => d h.2)]
    · rw [oif_pos (by cases e : x.2 <;> simp_all), if_neg (fun h => c h.1)]
  have w0 : IntKind.i64.wrap (0 - a0) = -a0 := by unfold B18 at h0; rw [iw, w64 (by omega) (by omega)]; omega
  have w1 : IntKind.i64.wrap (0 - a1) = -a1 := by unfold B18 at h1; rw [iw, w64 (by omega) (by omega)]; omega
  have w2 : IntKind.i64.wrap (0 - num) = -num := by rw [iw, w64 (by omega) (by omega)]; omega
  have w3 : IntKind.i64.wrap (0 - -a0) = a0 := by unfold B18 at h0; rw [iw, w64 (by omega) (by omega)]; omega
  by_cases c : num < 0
  · refine Ev.congr (fun k => oif_pos (by rw [decide_eq_true_eq]; exact c)) ?_
    rw [if_pos c, w0, w1, w2, w3]
    obtain ⟨x, ex, x1, x2⟩ := part_ev (n := -a1) (num := -num) (den := den) (bneg h1) (by omega) (by omega) d1 d2
    obtain ⟨y, ey, y1, y2⟩ := part_ev (n := a0) (num := -num) (den := den) h0 (by omega) (by omega) d1 d2
    rw [Int.neg_mul_neg] at x1 x2
    rw [Int.mul_neg] at y1 y2
    exact ob_ev ex (ob_ev ey (ev_some 0 fun k => fin x y _ _ x1 x2 y1 y2))
  · refine Ev.congr (fun k => oif_neg (by rw [decide_eq_true_eq]; exact c)) ?_
    rw [if_neg c, w1]
    obtain ⟨x, ex, x1, x2⟩ := part_ev (n := a0) (num := num) (den := den) h0 (by omega) (by omega) d1 d2
    obtain ⟨y, ey, y1, y2⟩ := part_ev (n := -a1) (num := num) (den := den) (bneg h1) (by omega) (by omega) d1 d2
    rw [Int.neg_mul] at y1 y2
    exact ob_ev ex (ob_ev ey (ev_some 0 fun k => fin x y _ _ x1 x2 y1 y2))
/-- numerator and denominator of a quotient, the denominator positive -/
def nu (p q : Int) : Int := if q < 0 then -p else p
def de (q : Int) : Int := if q < 0 then -q else q
def fl (p q : Int) : Int := nu p q / de q
def ce (p q : Int) : Int := -(-nu p q / de q)
theorem div_range {n d : Int} (hn : B18 n) (hd : 1 ≤ d) : B18 (n / d) := by
  unfold B18 at *
  exact ⟨Int.le_ediv_of_mul_le (by omega) (by have := Int.mul_le_mul_of_nonneg_left hd (show (0 : Int) ≤ 1000000000000000000 by omega); omega), Int.ediv_le_of_le_mul (by omega) (by have := Int.mul_le_mul_of_nonneg_left hd (show (0 : Int) ≤ 1000000000000000000 by omega); omega)⟩
theorem nu_b {p q : Int} (hp : B18 p) : B18 (nu p q) := by unfold nu B18 at *; split <;> omega
theorem de_b {q : Int} (hq : B18 q) (h0 : q ≠ 0) : 1 ≤ de q ∧ B18 (de q) := by unfold de B18 at *; split <;> omega
theorem ce_b {p q : Int} (hp : B18 p) (hq : B18 q) (h0 : q ≠ 0) : B18 (ce p q) := by
  have h := div_range (n := -nu p q) (by have := nu_b (q := q) hp; unfold B18 at *; omega) (de_b hq h0).1
  unfold ce
  unfold B18 at *
  omega
theorem floor_at {p q : Int} (hp : B18 p) (hq : B18 q) (h0 : q ≠ 0) : interval_Floor.f p q = some (fl p q) := by
  unfold fl nu de
  have hp' := hp
  unfold B18 at hp'
  by_cases c : q < 0
  · rw [floor_neg (by omega) c, if_pos c, if_pos c]
  · rw [floor_pos (by omega) (by omega), if_neg c, if_neg c]
theorem ceil_at {p q : Int} (hp : B18 p) (hq : B18 q) (h0 : q ≠ 0) : interval_Ceil.f p q = some (ce p q) := by
  have hb := ce_b hp hq h0
  unfold interval_Ceil.f
  have hp' := hp
  unfold B18 at hp'
  rw [w64 (x := -p) (by omega) (by omega), floor_at (p := -p) (by unfold B18; omega) hq h0, Option.bind_some]
  have e : -fl (-p) q = ce p q := by
    unfold fl ce nu
    by_cases c : q < 0
    · rw [if_pos c, if_pos c]
    · rw [if_neg c, if_neg c]
  rw [e, w64 (b18_w hb).1 (b18_w hb).2]
/-- what the bounds of a quotient say -/
theorem fl_tells {p q : Int} (h0 : q ≠ 0) : fl p q * de q ≤ nu p q ∧ nu p q < (fl p q + 1) * de q ∧ nu p q ≤ ce p q * de q ∧ (ce p q - 1) * de q < nu p q := by
  have hd : 0 < de q := by unfold de; split <;> omega
  unfold fl ce
  generalize de q = d at *
  generalize nu p q = n at *
  have a1 := Int.ediv_mul_le n (show d ≠ 0 by omega)
  have a2 := Int.lt_ediv_add_one_mul_self n hd
  have a3 := Int.ediv_mul_le (-n) (show d ≠ 0 by omega)
  have a4 := Int.lt_ediv_add_one_mul_self (-n) hd
  refine ⟨a1, a2, ?_, ?_⟩
  · rw [Int.neg_mul]; omega
  · rw [Int.add_mul, Int.one_mul] at a4
    rw [Int.sub_mul, Int.neg_mul, Int.one_mul]; omega
theorem div_ev {a0 a1 b0 b1 : Int} (h1 : B18 a0) (h2 : B18 a1) (h3 : B18 b0) (h4 : B18 b1) (z : two a0 a1 b0 b1 = 0) (n0 : b0 ≠ 0) (n1 : b1 ≠ 0) (hz : ¬ (b0 ≤ 0 ∧ b1 ≥ 0)) :
    Ev (fun k => interval_Div.f k a0 a1 b0 b1) (mn (mn (mn (fl a0 b0) (fl a0 b1)) (fl a1 b0)) (fl a1 b1), mx (mx (mx (ce a0 b0) (ce a0 b1)) (ce a1 b0)) (ce a1 b1), 0) := by
  have ck := both_ev a0 a1 b0 b1
  rw [z] at ck
  unfold interval_Div.f
  refine ev_bind ck ?_
  refine Ev.congr (fun k => if_pos rfl) ?_
  have main : Ev (fun k => interval_Div.j0 k false a0 a1 b0 b1) (mn (mn (mn (fl a0 b0) (fl a0 b1)) (fl a1 b0)) (fl a1 b1), mx (mx (mx (ce a0 b0) (ce a0 b1)) (ce a1 b0)) (ce a1 b1), 0) := by
    refine ev_some 5 fun k => ?_
    rw [interval_Div.j0, if_neg (by simp), floor_at h1 h3 n0, Option.bind_some, ceil_at h1 h3 n0, Option.bind_some]
    rw [interval_Div.l0, if_pos (by decide), if_pos (by decide), show rd [a0, a1, a1] 0 = a0 from rfl, show rd [b1, b0, b1] 0 = b1 from rfl, floor_at h1 h4 n1, Option.bind_some, ceil_at h1 h4 n1, Option.bind_some, show wrap64 (0 + 1) = 1 by decide +kernel]
    rw [interval_Div.l0, if_pos (by decide), if_pos (by decide), show rd [a0, a1, a1] 1 = a1 from rfl, show rd [b1, b0, b1] 1 = b0 from rfl, floor_at h2 h3 n0, Option.bind_some, ceil_at h2 h3 n0, Option.bind_some, show wrap64 (1 + 1) = 2 by decide +kernel]
    rw [interval_Div.l0, if_pos (by decide), if_pos (by decide), show rd [a0, a1, a1] 2 = a1 from rfl, show rd [b1, b0, b1] 2 = b1 from rfl, floor_at h2 h4 n1, Option.bind_some, ceil_at h2 h4 n1, Option.bind_some, show wrap64 (2 + 1) = 3 by decide +kernel]
    rw [interval_Div.l0, if_neg (by decide)]
  by_cases c : b0 ≤ 0
  · refine Ev.congr (fun k => if_pos c) ?_
    rw [decide_eq_false (show ¬ b1 ≥ 0 from fun d => hz ⟨c, d⟩)]
    exact main
  · exact Ev.congr (fun k => if_neg c) main
theorem mn4 (a b c d : Int) : (mn (mn (mn a b) c) d ≤ a ∧ mn (mn (mn a b) c) d ≤ b ∧ mn (mn (mn a b) c) d ≤ c ∧ mn (mn (mn a b) c) d ≤ d) ∧ (mn (mn (mn a b) c) d = a ∨ mn (mn (mn a b) c) d = b ∨ mn (mn (mn a b) c) d = c ∨ mn (mn (mn a b) c) d = d) := by
  unfold mn
  split <;> split <;> split <;> refine ⟨⟨?_, ?_, ?_, ?_⟩, ?_⟩ <;> omega
theorem mx4 (a b c d : Int) : (a ≤ mx (mx (mx a b) c) d ∧ b ≤ mx (mx (mx a b) c) d ∧ c ≤ mx (mx (mx a b) c) d ∧ d ≤ mx (mx (mx a b) c) d) ∧ (mx (mx (mx a b) c) d = a ∨ mx (mx (mx a b) c) d = b ∨ mx (mx (mx a b) c) d = c ∨ mx (mx (mx a b) c) d = d) := by
  unfold mx
  split <;> split <;> split <;> refine ⟨⟨?_, ?_, ?_, ?_⟩, ?_⟩ <;> omega
theorem abs_mul {a b x y : Int} (hx : x = if a < 0 then -a else a) (hy : y = if b < 0 then -b else b) : B18 (a * b) ↔ x * y ≤ 1000000000000000000 := by
  unfold B18
  by_cases c : a < 0 <;> by_cases d : b < 0
  · rw [if_pos c] at hx; rw [if_pos d] at hy; rw [hx, hy]
    have := Int.mul_pos_of_neg_of_neg c d
    rw [Int.neg_mul_neg]; omega
  · rw [if_pos c] at hx; rw [if_neg d] at hy; rw [hx, hy]
    have := Int.mul_nonneg (show 0 ≤ -a by omega) (show 0 ≤ b by omega)
    rw [Int.neg_mul] at *; omega
  · rw [if_neg c] at hx; rw [if_pos d] at hy; rw [hx, hy]
    have := Int.mul_nonneg (show 0 ≤ a by omega) (show 0 ≤ -b by omega)
    rw [Int.mul_neg] at *; omega
  · rw [if_neg c] at hx; rw [if_neg d] at hy; rw [hx, hy]
    have := Int.mul_nonneg (show 0 ≤ a by omega) (show 0 ≤ b by omega)
    omega
theorem times_at (k : Nat) {a b : Int} (ha : B18 a) (hb : B18 b) : interval_times.f (k + 1) a b = some (if B18 (a * b) then (a * b, true) else (0, false)) := by
  obtain ⟨a1, a2⟩ := ha
  obtain ⟨b1, b2⟩ := hb
  unfold interval_times.f
  by_cases c1 : a = 0
  · rw [if_pos c1, interval_times.j0, if_pos rfl, c1, Int.zero_mul, if_pos (by unfold B18; omega)]
  rw [if_neg c1]
  by_cases c2 : b = 0
  · rw [interval_times.j0, c2, Int.mul_zero, if_pos (by decide)]; rfl
  have am := abs_mul (a := a) (b := b) rfl rfl
  rw [interval_times.j0, if_neg (by simpa using c2), abs_at a (by omega) (by omega), Option.bind_some, abs_at b (by omega) (by omega), Option.bind_some]
  have hb' : 0 < (if b < 0 then -b else b) ∧ (if b < 0 then -b else b) ≤ 1000000000000000000 := by split <;> omega
  have ha' : (if a < 0 then -a else a) ≤ 1000000000000000000 := by split <;> omega
  generalize (if b < 0 then -b else b) = y at *
  generalize (if a < 0 then -a else a) = x at *
  have q0 : 0 ≤ 1000000000000000000 / y := Int.ediv_nonneg (by omega) (by omega)
  have q2 : 1000000000000000000 / y ≤ 1000000000000000000 := Int.ediv_le_self _ (by omega)
  have q : x ≤ 1000000000000000000 / y ↔ x * y ≤ 1000000000000000000 := Int.le_ediv_iff_mul_le hb'.1
  rw [if_neg (by omega), w64 (x := 1000000000000000000 / y) (by omega) (by omega)]
  by_cases c : B18 (a * b)
  · rw [if_neg (by have := q.2 (am.1 c); omega), if_pos c]
    unfold B18 at c
    rw [w64 (by omega) (by omega)]
  · rw [if_pos, if_neg c]
    rcases Int.lt_or_le (1000000000000000000 / y) x with h | h
    · exact h
    · exact absurd (am.2 (q.1 h)) c
def nlo (i p lo : Int) : Int := if i = 0 ∨ p < lo then p else lo
def nhi (i p hi : Int) : Int := if i = 0 ∨ p > hi then p else hi
theorem mul_step (k : Nat) {i i' a b x2 x3 x4 x5 x6 x7 x8 x9 lo hi : Int} (h0 : 0 ≤ i) (h3 : i < 4) (ei : i + 1 = i') (ea : rd [x9, x7, x5, x3] i = a) (eb : rd [x8, x6, x4, x2] i = b) (ha : B18 a) (hb : B18 b) (hp : B18 (a * b)) :
    interval_Mul.l0 (k + 2) i x2 x3 x4 x5 x6 x7 x8 x9 lo hi = interval_Mul.l0 k i' x2 x3 x4 x5 x6 x7 x8 x9 (nlo i (a * b) lo) (nhi i (a * b) hi) := by
  unfold nlo nhi
  rw [interval_Mul.l0, if_pos h3, if_pos h0, ea, eb, times_at k ha hb, if_pos hp, Option.bind_some, if_pos rfl]
  dsimp only
  have e : wrap64 (i + 1) = i' := by rw [← ei]; exact w64 (by omega) (by omega)
  by_cases c : i = 0
  · rw [if_pos c, interval_Mul.j1, if_pos rfl, if_pos c, e, if_pos (Or.inl c), if_pos (Or.inl c)]
  rw [if_neg c]
  by_cases c2 : a * b < lo
  · rw [interval_Mul.j1, if_pos (decide_eq_true c2), if_neg c, e, if_pos (Or.inr c2)]
    by_cases c3 : a * b > hi
    · rw [if_pos c3, if_pos (Or.inr c3)]
    · rw [if_neg c3, if_neg (by simp [c, c3])]
  · rw [interval_Mul.j1, if_neg (by simpa using c2), if_neg c, e, if_neg (show ¬ (i = 0 ∨ a * b < lo) by simp [c, c2])]
    by_cases c3 : a * b > hi
    · rw [if_pos c3, if_pos (Or.inr c3)]
    · rw [if_neg c3, if_neg (by simp [c, c3])]
theorem lo_step {i p lo : Int} : nlo i p lo ≤ p ∧ (i ≠ 0 → nlo i p lo ≤ lo) ∧ (nlo i p lo = p ∨ nlo i p lo = lo ∧ i ≠ 0) := by
  unfold nlo
  split <;> omega
theorem hi_step {i p hi : Int} : p ≤ nhi i p hi ∧ (i ≠ 0 → hi ≤ nhi i p hi) ∧ (nhi i p hi = p ∨ nhi i p hi = hi ∧ i ≠ 0) := by
  unfold nhi
  split <;> omega
/-- Mul: the least and the greatest product of the ends. -/
theorem mul_ev {a0 a1 b0 b1 : Int} (h1 : B18 a0) (h2 : B18 a1) (h3 : B18 b0) (h4 : B18 b1) (z : two a0 a1 b0 b1 = 0) (f1 : B18 (a0 * b0)) (f2 : B18 (a0 * b1)) (f3 : B18 (a1 * b0)) (f4 : B18 (a1 * b1)) : ∃ m M : Int, Ev (fun k => interval_Mul.f k a0 a1 b0 b1) (m, M, 0) ∧ (m ≤ a0 * b0 ∧ m ≤ a0 * b1 ∧ m ≤ a1 * b0 ∧ m ≤ a1 * b1) ∧ (a0 * b0 ≤ M ∧ a0 * b1 ≤ M ∧ a1 * b0 ≤ M ∧ a1 * b1 ≤ M) ∧
    (m = a0 * b0 ∨ m = a0 * b1 ∨ m = a1 * b0 ∨ m = a1 * b1) ∧ (M = a0 * b0 ∨ M = a0 * b1 ∨ M = a1 * b0 ∨ M = a1 * b1) := by
  have ck := both_ev a0 a1 b0 b1
  rw [z] at ck
  have run : ∀ k, interval_Mul.l0 (k + 9) 0 b1 a1 b0 a1 b1 a0 b0 a0 0 0 = some (nlo 3 (a1 * b1) (nlo 2 (a1 * b0) (nlo 1 (a0 * b1) (nlo 0 (a0 * b0) 0))), nhi 3 (a1 * b1) (nhi 2 (a1 * b0) (nhi 1 (a0 * b1) (nhi 0 (a0 * b0) 0))), 0) := by
    intro k
    rw [mul_step (i' := 1) (a := a0) (b := b0) (k + 7) (by decide) (by decide) rfl rfl rfl h1 h3 f1, mul_step (i' := 2) (a := a0) (b := b1) (k + 5) (by decide) (by decide) rfl rfl rfl h1 h4 f2, mul_step (i' := 3) (a := a1) (b := b0) (k + 3) (by decide) (by decide) rfl rfl rfl h2 h3 f3, mul_step (i' := 4) (a := a1) (b := b1) (k + 1) (by decide) (by decide) rfl rfl rfl h2 h4 f4, interval_Mul.l0, if_neg (by decide)]
  have run2 : Ev (fun k => interval_Mul.f k a0 a1 b0 b1) (nlo 3 (a1 * b1) (nlo 2 (a1 * b0) (nlo 1 (a0 * b1) (nlo 0 (a0 * b0) 0))), nhi 3 (a1 * b1) (nhi 2 (a1 * b0) (nhi 1 (a0 * b1) (nhi 0 (a0 * b0) 0))), 0) := by
    unfold interval_Mul.f
    refine ev_bind ck ?_
    refine Ev.congr (fun k => if_pos rfl) ?_
    exact ev_some 9 run
  refine ⟨_, _, run2, ?_⟩
  clear run run2 ck z f1 f2 f3 f4
  generalize a0 * b0 = p
  generalize a0 * b1 = q
  generalize a1 * b0 = r
  generalize a1 * b1 = s
  obtain ⟨u1, _, u3⟩ := lo_step (i := 0) (p := p) (lo := 0)
  generalize nlo 0 p 0 = l1 at *
  obtain ⟨v1, _, v3⟩ := hi_step (i := 0) (p := p) (hi := 0)
  generalize nhi 0 p 0 = g1 at *
  obtain ⟨w1, w2, w3⟩ := lo_step (i := 1) (p := q) (lo := l1)
  generalize nlo 1 q l1 = l2 at *
  obtain ⟨x1, x2, x3⟩ := hi_step (i := 1) (p := q) (hi := g1)
  generalize nhi 1 q g1 = g2 at *
  obtain ⟨y1, y2, y3⟩ := lo_step (i := 2) (p := r) (lo := l2)
  generalize nlo 2 r l2 = l3 at *
  obtain ⟨z1, z2, z3⟩ := hi_step (i := 2) (p := r) (hi := g2)
  generalize nhi 2 r g2 = g3 at *
  obtain ⟨y4, y5, y6⟩ := lo_step (i := 3) (p := s) (lo := l3)
  generalize nlo 3 s l3 = l4 at *
  obtain ⟨z4, z5, z6⟩ := hi_step (i := 3) (p := s) (hi := g3)
  generalize nhi 3 s g3 = g4 at *
  have w2 := w2 (by decide)
  have x2 := x2 (by decide)
  have y2 := y2 (by decide)
  have z2 := z2 (by decide)
  have y5 := y5 (by decide)
  have z5 := z5 (by decide)
  refine ⟨⟨?_, ?_, ?_, ?_⟩, ⟨?_, ?_, ?_, ?_⟩, ?_, ?_⟩ <;> omega
end Go.Proofs.Ytelcegpaakbppaa.IvalG
