/- OscillElapseds: Elapsed and Times are what the document says. -/
import Derived.Test.YtcmgfhfnfkelfaaOscillElapsedsn6
import Derived.Test.YtcmgfhfnfkelfaaOscillElapsedsn7
import Derived.Test.YtcmgfhfnfkelfaaOscillElapsedsn9
import Derived.Test.YtcmgfhfnfkelfaaOscillElapsedsn10
import Derived.Test.YtcmgfhfnfkelfaaOscillElapsedsn2
namespace Go.Proofs.Ytcmgfhfnfkelfaa.Pure
open Go Go.RowKit Go.Proofs.YtcmgfhfnfkelfaaW.PrintWords Go.Proofs.YtcmgfhfnfkelfaaW.PrintLast Go.Proofs.YtcmgfhfnfkelfaaW.PrintMore Go.Proofs.Ytcmgfhfnfkelfaa.Opn Go.Proofs.Ytcmgfhfnfkelfaa.PAll Go.Proofs.Ytcmgfhfnfkelfaa.Base
set_option linter.unusedVariables false
set_option linter.unusedSimpArgs false
theorem iw (x : Int) : IntKind.i64.wrap x = wrap64 x := i64_w x
theorem ilt_or (a b : Int) : a < b ∨ b ≤ a := by omega
/-- What a pair of bounds is found to be. -/
def sp (a b : Int) : Int := if a < -1000000000000000000 ∨ a > 1000000000000000000 ∨ b < -1000000000000000000 ∨ b > 1000000000000000000 then 3 else if b < a then 9 else 0
theorem interval_Check_at (k : Nat) (a b : Int) : interval_Check.f (k + 1) a b = some (sp a b) := by
  unfold interval_Check.f interval_out.f sp
  by_cases c1 : a < -1000000000000000000
  · simp [c1, interval_Check.j0]
  by_cases c2 : a > 1000000000000000000
  · simp [c1, c2, interval_Check.j0]
  by_cases c3 : b < -1000000000000000000
  · simp [c1, c2, c3, interval_Check.j0]
  by_cases c4 : b > 1000000000000000000
  · simp [c1, c2, c3, c4, interval_Check.j0]
  by_cases c5 : b < a
  · simp [c1, c2, c3, c4, c5, interval_Check.j0]
  · simp [c1, c2, c3, c4, c5, interval_Check.j0]
theorem spanErr_at (k : Nat) (a b : Int) : ephemerisref2_SpanErr.f (k + 1) a b = some (sp a b) := by
  unfold ephemerisref2_SpanErr.f sp
  by_cases c1 : a < -1000000000000000000
  · simp [c1, ephemerisref2_SpanErr.j0]
  by_cases c2 : a > 1000000000000000000
  · simp [c1, c2, ephemerisref2_SpanErr.j0]
  by_cases c3 : b < -1000000000000000000
  · simp [c1, c2, c3, ephemerisref2_SpanErr.j0]
  by_cases c4 : b > 1000000000000000000
  · simp [c1, c2, c3, c4, ephemerisref2_SpanErr.j0]
  by_cases c5 : b < a
  · simp [c1, c2, c3, c4, c5, ephemerisref2_SpanErr.j0]
  · simp [c1, c2, c3, c4, c5, ephemerisref2_SpanErr.j0]
/-- What bounds of times are found to be. -/
def tm (a b : Int) : Int := if a < -100000000000000000 then 3 else if b > 100000000000000000 then 3 else sp a b
theorem times_at (k : Nat) (a b : Int) : oscill_Times.f (k + 1) a b = some (tm a b) := by
  unfold oscill_Times.f tm
  rw [interval_Check_at]
  split
  · rfl
  · split <;> rfl
theorem timesErr_at (k : Nat) (a b : Int) : ephemerisref2_TimesErr.f (k + 1) a b = some (tm a b) := by
  unfold ephemerisref2_TimesErr.f tm
  rw [spanErr_at]
  split
  · rfl
  · split <;> rfl
/-- A quotient rounded down, by a positive number. -/
theorem floor_pos {a b : Int} (ha : -9223372036854775808 ≤ a ∧ a ≤ 9223372036854775807) (hb : 0 < b) : interval_Floor.f a b = some (a / b) := by
  have hd := Int.tdiv_eq_ediv (a := a) (b := b)
  have hm := Int.mul_tdiv_add_tmod a b
  have hs : b.sign = 1 := Int.sign_eq_one_of_pos hb
  have h1 : b * (a / b) ≤ a := Int.mul_ediv_self_le (by omega)
  have h2 : a < b * (a / b) + b := Int.lt_mul_ediv_self_add hb
  have h3 : -9223372036854775808 ≤ a / b := by
    rcases ilt_or (a / b) (-9223372036854775808) with h | h
    · have : b * (a / b) ≤ 1 * (a / b) := Int.mul_le_mul_of_nonpos_right (by omega) (by omega)
      have h5 : b * (a / b) + b ≤ a / b + 1 := by
        have : b * (a / b + 1) ≤ 1 * (a / b + 1) := Int.mul_le_mul_of_nonpos_right (by omega) (by omega)
        rw [Int.mul_add, Int.mul_one] at this
        omega
      omega
    · exact h
  have h4 : a / b ≤ 9223372036854775807 := by
    rcases ilt_or 9223372036854775807 (a / b) with h | h
    · have : 1 * (a / b) ≤ b * (a / b) := Int.mul_le_mul_of_nonneg_right (by omega) (by omega)
      omega
    · exact h
  unfold interval_Floor.f
  rw [if_neg (by omega)]
  have hdec : decide (b < 0) = false := decide_eq_false (by omega)
  by_cases c : a.tmod b = 0
  · rw [if_pos c]
    have : b ∣ a := Int.dvd_of_tmod_eq_zero c
    rw [if_pos (Or.inr this)] at hd
    rw [hd, Int.add_zero, w64 h3 h4]
  · rw [if_neg c, hdec]
    have hnd : ¬ b ∣ a := fun h => c (Int.tmod_eq_zero_of_dvd h)
    by_cases c2 : a < 0
    · rw [if_pos (by simp [c2])]
      rw [if_neg (by rintro (h | h) <;> first | omega | exact hnd h), hs] at hd
      rw [hd, w64 (x := a / b + 1) (by omega) ?_, w64 (by omega) (by omega)]
      · congr 1; omega
      · rcases ilt_or 0 (a / b + 1) with h | h
        · have : b * 0 ≤ b * (a / b) := Int.mul_le_mul_of_nonneg_left (by omega) (by omega)
          omega
        · omega
    · rw [if_neg (by simp [c2])]
      rw [if_pos (Or.inl (by omega))] at hd
      rw [hd, Int.add_zero, w64 h3 h4]
theorem times_ev (a b : Int) : Ev (fun k => oscill_Times.f k a b) (tm a b) := ev_some 1 fun k => times_at k a b
/-- a quotient rounded up, as the document's answer tells it -/
theorem ceil_eq {n D : Int} (hD : 0 < D) : -(-n / D) = if n / D * D < n then n / D + 1 else n / D := by
  have h1 := Int.emod_add_mul_ediv n D
  have h2 := Int.emod_nonneg n (show D ≠ 0 by omega)
  have h3 := Int.emod_lt_of_pos n hD
  have h4 : D * (n / D) = n / D * D := Int.mul_comm _ _
  generalize n / D = q at *
  generalize n % D = r at *
  by_cases c : r = 0
  · rw [if_neg (by omega)]
    have : -n / D = -q := by
      rw [show -n = -q * D by rw [Int.neg_mul]; omega]
      exact Int.mul_ediv_cancel _ (by omega)
    omega
  · rw [if_pos (by omega)]
    have : -n / D = -q - 1 := by
      have h5 : -n = (D - r) + D * (-q - 1) := by rw [Int.mul_sub, Int.mul_neg, Int.mul_one]; omega
      rw [h5, Int.add_mul_ediv_left _ _ (by omega), Int.ediv_eq_zero_of_lt (by omega) (by omega), Int.zero_add]
    omega
/-- what passes while a clock counts -/
def elo (d t : Int) : Int := t * 1000000 / (1000000 + d)
def ehi (d t : Int) : Int := -(-(t * 1000000) / (1000000 - d))
theorem elapsed_ev {d t : Int} (d0 : 0 ≤ d) (d1 : d ≤ 100000) (t0 : 0 ≤ t) (t1 : t ≤ 1000000000000) : Ev (fun k => oscill_Elapsed.f k d t) (elo d t, ehi d t, 0) :=
  ev_some 2 fun k => by
    unfold oscill_Elapsed.f
    rw [if_neg (by omega), oscill_Elapsed.j0, if_neg (by simp; omega), if_neg (by omega), oscill_Elapsed.j1, if_neg (by simp; omega), w64 (x := t * 1000000) (by omega) (by omega), w64 (x := 1000000 + d) (by omega) (by omega), w64 (x := 1000000 - d) (by omega) (by omega), floor_pos (by omega) (by omega), Option.bind_some]
    unfold interval_Ceil.f
    rw [w64 (x := -(t * 1000000)) (by omega) (by omega), floor_pos (by omega) (by omega), Option.bind_some]
    have h1 := Int.emod_add_mul_ediv (-(t * 1000000)) (1000000 - d)
    have h2 : -(t * 1000000) / (1000000 - d) ≤ 0 := by
      have := Int.ediv_le_ediv (show (0 : Int) < 1000000 - d by omega) (show -(t * 1000000) ≤ 0 by omega)
      simpa using this
    have h3 : -(t * 1000000) ≤ -(t * 1000000) / (1000000 - d) := by
      rw [Int.le_ediv_iff_mul_le (by omega)]
      have := Int.mul_le_mul_of_nonpos_left (show -(t * 1000000) ≤ 0 by omega) (show (1 : Int) ≤ 1000000 - d by omega)
      omega
    rw [w64 (by omega) (by omega), Option.bind_some]
    rfl
theorem relapsed_ev {d t : Int} (d0 : 0 ≤ d) (d1 : d ≤ 100000) (t0 : 0 ≤ t) (t1 : t ≤ 1000000000000) : Ev (fun k => ephemerisref2_Elapsed.f k d t) (elo d t, ehi d t) :=
  ev_some 0 fun k => by
    unfold ephemerisref2_Elapsed.f elo ehi
    simp only [iw, Sx.oif_eq, decide_eq_true_eq]
    have hb : 0 ≤ t * 1000000 / (1000000 - d) ∧ t * 1000000 / (1000000 - d) ≤ t * 1000000 ∧ t * 1000000 / (1000000 - d) * (1000000 - d) ≤ t * 1000000 := by
      refine ⟨Int.ediv_nonneg (by omega) (by omega), ?_, ?_⟩
      · exact Int.ediv_le_self _ (by omega)
      · exact Int.ediv_mul_le _ (by omega)
    have hc : 0 ≤ t * 1000000 / (1000000 - d) * (1000000 - d) := Int.mul_nonneg hb.1 (by omega)
    have ha : 0 ≤ t * 1000000 / (1000000 + d) ∧ t * 1000000 / (1000000 + d) ≤ t * 1000000 := ⟨Int.ediv_nonneg (by omega) (by omega), Int.ediv_le_self _ (by omega)⟩
    obtain ⟨hb1, hb2, hb3⟩ := hb
    rw [w64 (x := 1000000 + d) (by omega) (by omega), w64 (x := 1000000 - d) (by omega) (by omega), w64 (x := t * 1000000) (by omega) (by omega), if_neg (by omega), if_neg (by omega), Int.tdiv_eq_ediv_of_nonneg (by omega), Int.tdiv_eq_ediv_of_nonneg (by omega), w64 (x := t * 1000000 / (1000000 - d)) (by omega) (by omega), w64 (x := t * 1000000 / (1000000 - d) * (1000000 - d)) (by omega) (by omega), w64 (x := t * 1000000 / (1000000 + d)) (by omega) (by omega), w64 (x := t * 1000000 / (1000000 - d) + 1) (by omega) (by omega), ceil_eq (n := t * 1000000) (D := 1000000 - d) (by omega)]
    split <;> rfl
theorem elapsed_arg {d t : Int} (h : d < 0 ∨ d > 100000) : Ev (fun k => oscill_Elapsed.f k d t) (0, 0, 1) :=
  ev_some 1 fun k => by
    unfold oscill_Elapsed.f
    by_cases c : d < 0
    · rw [if_pos c, oscill_Elapsed.j0, if_pos rfl]
    · rw [if_neg c, oscill_Elapsed.j0, if_pos (by simp; omega)]
theorem elapsed_range {d t : Int} (d0 : 0 ≤ d) (d1 : d ≤ 100000) (h : t < 0 ∨ t > 1000000000000) : Ev (fun k => oscill_Elapsed.f k d t) (0, 0, 3) :=
  ev_some 2 fun k => by
    unfold oscill_Elapsed.f
    rw [if_neg (by omega), oscill_Elapsed.j0, if_neg (by simp; omega)]
    by_cases c : t < 0
    · rw [if_pos c, oscill_Elapsed.j1, if_pos rfl]
    · rw [if_neg c, oscill_Elapsed.j1, if_pos (by simp; omega)]
theorem none_at (a b : Int) (e x : Int) (h : e = x) (ha : a = 0) (hb : b = 0) : ephemerislaw2_none.f a b e x = some true := by
  subst h ha hb
  simp [ephemerislaw2_none.f]
theorem works : Ev (fun k => ephemerislaw2_oscillWorks.f k) true := Ev.of ephemerislaw2_oscillWorks.mono (k := 20) (by decide +kernel)
theorem terr_ev (a b : Int) : Ev (fun k => ephemerisref2_TimesErr.f k a b) (tm a b) := ev_some 1 fun k => timesErr_at k a b
theorem OscillElapseds : PureX := by
  intro d t s hd ht hs
  refine ev_k (g := fun k => ephemerislaw2_OscillElapseds.f k d t s.f0 s.f1) ?_
  unfold ephemerislaw2_OscillElapseds.f
  refine ev_bind works ?_
  refine Ev.congr (fun k => if_pos rfl) ?_
  have fin : ∀ (k : Nat) (p q e x : Int), p = 0 → q = 0 → e = x → ephemerislaw2_none.f p q e x = some true := fun k p q e x h1 h2 h3 => none_at p q e x h3 h1 h2
  by_cases c1 : d < 0 ∨ d > 100000
  · refine ev_bind (elapsed_arg c1) (ev_bind (times_ev _ _) (ev_bind (terr_ev _ _) ?_))
    refine Ev.congr (fun k => if_pos rfl) ?_
    refine ev_some 1 fun k => ?_
    by_cases c : d < 0
    · rw [if_pos c, ephemerislaw2_OscillElapseds.j0, if_pos rfl, none_at _ _ _ _ rfl rfl rfl, Option.bind_some]
    · rw [if_neg c, ephemerislaw2_OscillElapseds.j0, if_pos (by simp; omega), none_at _ _ _ _ rfl rfl rfl, Option.bind_some]
  by_cases c2 : t < 0 ∨ t > 1000000000000
  · refine ev_bind (elapsed_range (by omega) (by omega) c2) (ev_bind (times_ev _ _) (ev_bind (terr_ev _ _) ?_))
    refine Ev.congr (fun k => if_pos rfl) ?_
    refine ev_some 2 fun k => ?_
    rw [if_neg (by omega), ephemerislaw2_OscillElapseds.j0, if_neg (by simp; omega)]
    by_cases c : t < 0
    · rw [if_pos c, ephemerislaw2_OscillElapseds.j1, if_pos rfl, none_at _ _ _ _ rfl rfl rfl, Option.bind_some]
    · rw [if_neg c, ephemerislaw2_OscillElapseds.j1, if_pos (by simp; omega), none_at _ _ _ _ rfl rfl rfl, Option.bind_some]
  · refine ev_bind (elapsed_ev (by omega) (by omega) (by omega) (by omega)) (ev_bind (times_ev _ _) (ev_bind (terr_ev _ _) ?_))
    refine Ev.congr (fun k => if_pos rfl) ?_
    refine ev_step 2 (fun k => by rw [if_neg (by omega), ephemerislaw2_OscillElapseds.j0, if_neg (by simp; omega), if_neg (by omega), ephemerislaw2_OscillElapseds.j1, if_neg (by simp; omega), if_pos rfl]) ?_
    refine ev_bind (relapsed_ev (by omega) (by omega) (by omega) (by omega)) (ev_some 0 fun k => ?_)
    simp
end Go.Proofs.Ytcmgfhfnfkelfaa.Pure
