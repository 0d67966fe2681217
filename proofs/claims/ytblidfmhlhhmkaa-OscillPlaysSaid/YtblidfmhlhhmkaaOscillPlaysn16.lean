/- OscillPlays: a clock that is set and read again and again is what the document says. -/
import Derived.Test.YtblidfmhlhhmkaaOscillPlaysn2
import Derived.Test.YtblidfmhlhhmkaaOscillPlaysn3
import Derived.Test.YtblidfmhlhhmkaaOscillPlaysn4
import Derived.Test.YtblidfmhlhhmkaaOscillPlaysn9
import Derived.Test.YtblidfmhlhhmkaaOscillPlaysn10
import Derived.Test.YtblidfmhlhhmkaaOscillPlaysn12
import Derived.Test.YtblidfmhlhhmkaaOscillPlaysn14
import Derived.Test.YtblidfmhlhhmkaaOscillPlaysn15
import Derived.Test.YtblidfmhlhhmkaaOscillPlaysn5
namespace Go.Proofs.Ytblidfmhlhhmkaa.Pure
open Go Go.RowKit Go.Proofs.YtblidfmhlhhmkaaW.PrintWords Go.Proofs.YtblidfmhlhhmkaaW.PrintLast Go.Proofs.YtblidfmhlhhmkaaW.PrintMore Go.Proofs.Ytblidfmhlhhmkaa.Opn Go.Proofs.Ytblidfmhlhhmkaa.PAll Go.Proofs.Ytblidfmhlhhmkaa.Base
set_option linter.unusedVariables false
set_option linter.unusedSimpArgs false
theorem iw (x : Int) : IntKind.i64.wrap x = wrap64 x := i64_w x
theorem ilt_or (a b : Int) : a < b ∨ b ≤ a := by omega
/-- What a pair of bounds is found to be. -/
def sp (a b : Int) : Int := if a < -1000000000000000000 ∨ a > 1000000000000000000 ∨ b < -1000000000000000000 ∨ b > 1000000000000000000 then 3 else if b < a then 9 else 0
theorem interval_Check_at (k : Nat) (a b : Int) : interval_Check.f (k + 1) a b = some (sp a b) := by
  unfold interval_Check.f interval_out.f sp
  by_cases c1 : a < -1000000000000000000
  · simp [c1, interval_Check.j0]
  by_cases c2 : a > 1000000000000000000
  · simp [c1, c2, interval_Check.j0]
  by_cases c3 : b < -1000000000000000000
  · simp [c1, c2, c3, interval_Check.j0]
  by_cases c4 : b > 1000000000000000000
  · simp [c1, c2, c3, c4, interval_Check.j0]
  by_cases c5 : b < a
  · simp [c1, c2, c3, c4, c5, interval_Check.j0]
  · simp [c1, c2, c3, c4, c5, interval_Check.j0]
theorem spanErr_at (k : Nat) (a b : Int) : ephemerisref2_SpanErr.f (k + 1) a b = some (sp a b) := by
  unfold ephemerisref2_SpanErr.f sp
  by_cases c1 : a < -1000000000000000000
  · simp [c1, ephemerisref2_SpanErr.j0]
  by_cases c2 : a > 1000000000000000000
  · simp [c1, c2, ephemerisref2_SpanErr.j0]
  by_cases c3 : b < -1000000000000000000
  · simp [c1, c2, c3, ephemerisref2_SpanErr.j0]
  by_cases c4 : b > 1000000000000000000
  · simp [c1, c2, c3, c4, ephemerisref2_SpanErr.j0]
  by_cases c5 : b < a
  · simp [c1, c2, c3, c4, c5, ephemerisref2_SpanErr.j0]
  · simp [c1, c2, c3, c4, c5, ephemerisref2_SpanErr.j0]
/-- What bounds of times are found to be. -/
def tm (a b : Int) : Int := if a < -100000000000000000 then 3 else if b > 100000000000000000 then 3 else sp a b
theorem times_at (k : Nat) (a b : Int) : oscill_Times.f (k + 1) a b = some (tm a b) := by
  unfold oscill_Times.f tm
  rw [interval_Check_at]
  split
  · rfl
  · split <;> rfl
theorem timesErr_at (k : Nat) (a b : Int) : ephemerisref2_TimesErr.f (k + 1) a b = some (tm a b) := by
  unfold ephemerisref2_TimesErr.f tm
  rw [spanErr_at]
  split
  · rfl
  · split <;> rfl
/-- A quotient rounded down, by a positive number. -/
theorem floor_pos {a b : Int} (ha : -9223372036854775808 ≤ a ∧ a ≤ 9223372036854775807) (hb : 0 < b) : interval_Floor.f a b = some (a / b) := by
  have hd := Int.tdiv_eq_ediv (a := a) (b := b)
  have hm := Int.mul_tdiv_add_tmod a b
  have hs : b.sign = 1 := Int.sign_eq_one_of_pos hb
  have h1 : b * (a / b) ≤ a := Int.mul_ediv_self_le (by omega)
  have h2 : a < b * (a / b) + b := Int.lt_mul_ediv_self_add hb
  have h3 : -9223372036854775808 ≤ a / b := by
    rcases ilt_or (a / b) (-9223372036854775808) with h | h
    · have : b * (a / b) ≤ 1 * (a / b) := Int.mul_le_mul_of_nonpos_right (by omega) (by omega)
      have h5 : b * (a / b) + b ≤ a / b + 1 := by
        have : b * (a / b + 1) ≤ 1 * (a / b + 1) := Int.mul_le_mul_of_nonpos_right (by omega) (by omega)
        rw [Int.mul_add, Int.mul_one] at this
        omega
      omega
    · exact h
  have h4 : a / b ≤ 9223372036854775807 := by
    rcases ilt_or 9223372036854775807 (a / b) with h | h
    · have : 1 * (a / b) ≤ b * (a / b) := Int.mul_le_mul_of_nonneg_right (by omega) (by omega)
      omega
    · exact h
  unfold interval_Floor.f
  rw [if_neg (by omega)]
  have hdec : decide (b < 0) = false := decide_eq_false (by omega)
  by_cases c : a.tmod b = 0
  · rw [if_pos c]
    have : b ∣ a := Int.dvd_of_tmod_eq_zero c
    rw [if_pos (Or.inr this)] at hd
    rw [hd, Int.add_zero, w64 h3 h4]
  · rw [if_neg c, hdec]
    have hnd : ¬ b ∣ a := fun h => c (Int.tmod_eq_zero_of_dvd h)
    by_cases c2 : a < 0
    · rw [if_pos (by simp [c2])]
      rw [if_neg (by rintro (h | h) <;> first | omega | exact hnd h), hs] at hd
      rw [hd, w64 (x := a / b + 1) (by omega) ?_, w64 (by omega) (by omega)]
      · congr 1; omega
      · rcases ilt_or 0 (a / b + 1) with h | h
        · have : b * 0 ≤ b * (a / b) := Int.mul_le_mul_of_nonneg_left (by omega) (by omega)
          omega
        · omega
    · rw [if_neg (by simp [c2])]
      rw [if_pos (Or.inl (by omega))] at hd
      rw [hd, Int.add_zero, w64 h3 h4]
/-- a quotient rounded up, as the document's answer tells it -/
theorem ceil_eq {n D : Int} (hD : 0 < D) : -(-n / D) = if n / D * D < n then n / D + 1 else n / D := by
  have h1 := Int.emod_add_mul_ediv n D
  have h2 := Int.emod_nonneg n (show D ≠ 0 by omega)
  have h3 := Int.emod_lt_of_pos n hD
  have h4 : D * (n / D) = n / D * D := Int.mul_comm _ _
  generalize n / D = q at *
  generalize n % D = r at *
  by_cases c : r = 0
  · rw [if_neg (by omega)]
    have : -n / D = -q := by
      rw [show -n = -q * D by rw [Int.neg_mul]; omega]
      exact Int.mul_ediv_cancel _ (by omega)
    omega
  · rw [if_pos (by omega)]
    have : -n / D = -q - 1 := by
      have h5 : -n = (D - r) + D * (-q - 1) := by rw [Int.mul_sub, Int.mul_neg, Int.mul_one]; omega
      rw [h5, Int.add_mul_ediv_left _ _ (by omega), Int.ediv_eq_zero_of_lt (by omega) (by omega), Int.zero_add]
    omega
/-- what passes while a clock counts -/
def elo (d t : Int) : Int := t * 1000000 / (1000000 + d)
def ehi (d t : Int) : Int := -(-(t * 1000000) / (1000000 - d))
theorem elapsed_ev {d t : Int} (d0 : 0 ≤ d) (d1 : d ≤ 100000) (t0 : 0 ≤ t) (t1 : t ≤ 1000000000000) : Ev (fun k => oscill_Elapsed.f k d t) (elo d t, ehi d t, 0) :=
  ev_some 2 fun k => by
    unfold oscill_Elapsed.f
    rw [if_neg (by omega), oscill_Elapsed.j0, if_neg (by simp; omega), if_neg (by omega), oscill_Elapsed.j1, if_neg (by simp; omega), w64 (x := t * 1000000) (by omega) (by omega), w64 (x := 1000000 + d) (by omega) (by omega), w64 (x := 1000000 - d) (by omega) (by omega), floor_pos (by omega) (by omega), Option.bind_some]
    unfold interval_Ceil.f
    rw [w64 (x := -(t * 1000000)) (by omega) (by omega), floor_pos (by omega) (by omega), Option.bind_some]
    have h1 := Int.emod_add_mul_ediv (-(t * 1000000)) (1000000 - d)
    have h2 : -(t * 1000000) / (1000000 - d) ≤ 0 := by
      have := Int.ediv_le_ediv (show (0 : Int) < 1000000 - d by omega) (show -(t * 1000000) ≤ 0 by omega)
      simpa using this
    have h3 : -(t * 1000000) ≤ -(t * 1000000) / (1000000 - d) := by
      rw [Int.le_ediv_iff_mul_le (by omega)]
      have := Int.mul_le_mul_of_nonpos_left (show -(t * 1000000) ≤ 0 by omega) (show (1 : Int) ≤ 1000000 - d by omega)
      omega
    rw [w64 (by omega) (by omega), Option.bind_some]
    rfl
theorem relapsed_ev {d t : Int} (d0 : 0 ≤ d) (d1 : d ≤ 100000) (t0 : 0 ≤ t) (t1 : t ≤ 1000000000000) : Ev (fun k => ephemerisref2_Elapsed.f k d t) (elo d t, ehi d t) :=
  ev_some 0 fun k => by
    unfold ephemerisref2_Elapsed.f elo ehi
    simp only [iw, Sx.oif_eq, decide_eq_true_eq]
    have hb : 0 ≤ t * 1000000 / (1000000 - d) ∧ t * 1000000 / (1000000 - d) ≤ t * 1000000 ∧ t * 1000000 / (1000000 - d) * (1000000 - d) ≤ t * 1000000 := by
      refine ⟨Int.ediv_nonneg (by omega) (by omega), ?_, ?_⟩
      · exact Int.ediv_le_self _ (by omega)
      · exact Int.ediv_mul_le _ (by omega)
    have hc : 0 ≤ t * 1000000 / (1000000 - d) * (1000000 - d) := Int.mul_nonneg hb.1 (by omega)
    have ha : 0 ≤ t * 1000000 / (1000000 + d) ∧ t * 1000000 / (1000000 + d) ≤ t * 1000000 := ⟨Int.ediv_nonneg (by omega) (by omega), Int.ediv_le_self _ (by omega)⟩
    obtain ⟨hb1, hb2, hb3⟩ := hb
    rw [w64 (x := 1000000 + d) (by omega) (by omega), w64 (x := 1000000 - d) (by omega) (by omega), w64 (x := t * 1000000) (by omega) (by omega), if_neg (by omega), if_neg (by omega), Int.tdiv_eq_ediv_of_nonneg (by omega), Int.tdiv_eq_ediv_of_nonneg (by omega), w64 (x := t * 1000000 / (1000000 - d)) (by omega) (by omega), w64 (x := t * 1000000 / (1000000 - d) * (1000000 - d)) (by omega) (by omega), w64 (x := t * 1000000 / (1000000 + d)) (by omega) (by omega), w64 (x := t * 1000000 / (1000000 - d) + 1) (by omega) (by omega), ceil_eq (n := t * 1000000) (D := 1000000 - d) (by omega)]
    split <;> rfl
theorem works : Ev (fun k => ephemerislaw2_oscillWorks.f k) true := Ev.of ephemerislaw2_oscillWorks.mono (k := 20) (by decide +kernel)
/-- what a reading is found to be -/
def rdv (t lo hi : Int) : Int := if t < 0 then 3 else if t > 1000000000000 then 3 else tm lo hi
theorem rdv_zero {t lo hi : Int} (h : rdv t lo hi = 0) : 0 ≤ t ∧ t ≤ 1000000000000 := by
  unfold rdv at h
  split at h
  · cases h
  · split at h
    · cases h
    · exact ⟨by omega, by omega⟩
theorem rerr_at (k : Nat) (t lo hi : Int) : ephemerisref2_ReadingErr.f (k + 1) t lo hi = some (rdv t lo hi) := by
  unfold ephemerisref2_ReadingErr.f rdv
  by_cases c1 : t < 0
  · rw [if_pos c1, if_pos c1]
  · by_cases c2 : t > 1000000000000
    · rw [if_neg c1, if_neg c1, if_pos c2, if_pos c2]
    · rw [if_neg c1, if_neg c1, if_neg c2, if_neg c2, timesErr_at]; rfl
/-- what a clock answers that is set -/
def sx (b : Bool) (T t lo hi : Int) : Int := if rdv t lo hi = 0 ∧ b = true ∧ t < T then 9 else rdv t lo hi
theorem set_at (k : Nat) (d T L U t lo hi : Int) (b : Bool) : oscill_Clock_Set.f (k + 2) d b T L U t lo hi = some (if sx b T t lo hi = 0 then (0, d, true, t, lo, hi) else (sx b T t lo hi, d, b, T, L, U)) := by
  unfold oscill_Clock_Set.f
  by_cases c1 : t < 0
  · have e : sx b T t lo hi = 3 := by unfold sx rdv; simp [c1]
    rw [if_pos c1, oscill_Clock_Set.j0, if_pos rfl, e, if_neg (by decide)]
  · by_cases c2 : t > 1000000000000
    · have e : sx b T t lo hi = 3 := by unfold sx rdv; simp [c1, c2]
      rw [if_neg c1, decide_eq_true c2, oscill_Clock_Set.j0, if_pos rfl, e, if_neg (by decide)]
    · have hr : rdv t lo hi = tm lo hi := by unfold rdv; rw [if_neg c1, if_neg c2]
      rw [if_neg c1, decide_eq_false c2, oscill_Clock_Set.j0, if_neg (by simp), times_at, Option.bind_some]
      by_cases c3 : tm lo hi = 0
      · rw [if_pos c3]
        cases b
        · have e : sx false T t lo hi = 0 := by unfold sx; rw [hr, if_neg (by simp), c3]
          rw [if_neg (by simp), e, if_pos rfl]
        · rw [if_pos rfl]
          by_cases c4 : t < T
          · have e : sx true T t lo hi = 9 := by unfold sx; rw [hr, if_pos ⟨c3, rfl, c4⟩]
            rw [if_pos c4, e, if_neg (by decide)]
          · have e : sx true T t lo hi = 0 := by unfold sx; rw [hr, if_neg (fun h => c4 h.2.2), c3]
            rw [if_neg c4, e, if_pos rfl]
      · have e : sx b T t lo hi = tm lo hi := by unfold sx; rw [hr, if_neg (fun h => c3 h.1)]
        rw [if_neg c3, e, if_neg c3]
theorem ev_shift {α : Type} {g : Nat → Option α} {r : α} (n : Nat) (h : Ev g r) : Ev (fun k => g (k + n)) r := by
  obtain ⟨K, hK⟩ := h
  exact ⟨K, fun k hk => hK (k + n) (by omega)⟩
/-- what a clock tells -/
def av (d : Int) (b : Bool) (T L U t : Int) : Int × Int × Int := if t < 0 ∨ t > 1000000000000 then (0, 0, 3) else if b = true then (if t < T then (0, 0, 9) else (wrap64 (L + elo d (t - T)), wrap64 (U + ehi d (t - T)), 0)) else (0, 0, 10)
theorem at_ev {d : Int} (d0 : 0 ≤ d) (d1 : d ≤ 100000) {b : Bool} {T L U t : Int} (hT : b = true → 0 ≤ T ∧ T ≤ 1000000000000) : Ev (fun k => oscill_Clock_At.f k d b T L U t) ((av d b T L U t).1, (av d b T L U t).2.1, (av d b T L U t).2.2, d, b, T, L, U) := by
  unfold oscill_Clock_At.f av
  by_cases c1 : t < 0
  · simp only [if_pos c1, if_pos (show t < 0 ∨ t > 1000000000000 from Or.inl c1)]
    exact ev_some 1 fun k => by rw [oscill_Clock_At.j0, if_pos rfl]
  · simp only [if_neg c1]
    by_cases c2 : t > 1000000000000
    · simp only [if_pos (show t < 0 ∨ t > 1000000000000 from Or.inr c2)]
      exact ev_some 1 fun k => by rw [oscill_Clock_At.j0, if_pos (by simp; omega)]
    · simp only [if_neg (show ¬ (t < 0 ∨ t > 1000000000000) by omega)]
      cases b
      · simp only [if_neg (show ¬ (false = true) by simp)]
        exact ev_some 1 fun k => by rw [oscill_Clock_At.j0, if_neg (by simp; omega), if_neg (by simp)]
      · have hT' := hT rfl
        simp only [if_true]
        by_cases c3 : t < T
        · simp only [if_pos c3]
          exact ev_some 1 fun k => by rw [oscill_Clock_At.j0, if_neg (by simp; omega), if_pos rfl, if_pos c3]
        · simp only [if_neg c3]
          refine ev_step 1 (f := fun k => (oscill_Elapsed.f k d (t - T)).bind fun bt114 => (some (wrap64 (L + bt114.1), wrap64 (U + bt114.2.1), 0, d, true, T, L, U))) (fun k => ?_) (ev_bind (elapsed_ev d0 d1 (by omega) (by omega)) (ev_some 0 fun k => rfl))
          rw [oscill_Clock_At.j0, if_neg (by simp; omega), if_pos rfl, if_neg c3, w64 (x := t - T) (by omega) (by omega)]
theorem moved_ev {d : Int} (d0 : 0 ≤ d) (d1 : d ≤ 100000) {T L U t : Int} (hr : rdv T L U = 0) (ht : ¬ (t < 0 ∨ t > 1000000000000)) : Ev (fun k => ephemerisref2_Moved.f k d T L U t) (av d true T L U t) := by
  have hT := rdv_zero hr
  unfold av
  rw [if_neg ht, if_pos rfl]
  by_cases c3 : t < T
  · rw [if_pos c3]
    exact ev_some 3 fun k => by
      unfold ephemerisref2_Moved.f
      rw [rerr_at, Option.bind_some, if_pos hr, if_neg (by omega), ephemerisref2_Moved.j0, if_neg (by simp; omega), if_neg (by omega), ephemerisref2_Moved.j1, if_neg (by simp; omega), if_pos c3]
  · rw [if_neg c3]
    refine ev_step 3 (f := fun k => (ephemerisref2_Elapsed.f (k + 1) d (t - T)).bind fun bt153 => (some (wrap64 (L + bt153.1), wrap64 (U + bt153.2), 0))) (fun k => ?_) ?_
    · unfold ephemerisref2_Moved.f
      rw [rerr_at, Option.bind_some, if_pos hr, if_neg (by omega), ephemerisref2_Moved.j0, if_neg (by simp; omega), if_neg (by omega), ephemerisref2_Moved.j1, if_neg (by simp; omega), if_neg c3, w64 (x := t - T) (by omega) (by omega)]
    · obtain ⟨K, hK⟩ := relapsed_ev d0 d1 (show 0 ≤ t - T by omega) (show t - T ≤ 1000000000000 by omega)
      exact ⟨K, fun k hk => by have h := hK (k + 1) (by omega); dsimp only at h ⊢; rw [h]; rfl⟩
theorem none_eq (e : Int) : ephemerislaw2_none.f 0 0 e e = some true := by unfold ephemerislaw2_none.f; rw [if_pos rfl]; rfl
section
variable {d : Int} {l1 : List Int} {l2 : List S41}
theorem j5_ev (d0 : 0 ≤ d) (d1 : d ≤ 100000) (hl : (l1.length : Int) ≤ 9223372036854775807) {i : Nat} (hi : i < l1.length) {b : Bool} {T L U t : Int} (hr : b = true → rdv T L U = 0) (hN : Ev (fun k => ephemerislaw2_OscillPlays.l0 k d l2 b l1 (l1.length : Int) ((i + 1 : Nat) : Int) d b T L U T L U) true) :
    Ev (fun k => ephemerislaw2_OscillPlays.j5 k d l2 b t l1 (l1.length : Int) (i : Int) d b T L U T L U) true := by
  have hw : wrap64 ((i : Int) + 1) = ((i + 1 : Nat) : Int) := by rw [w64 (by omega) (by omega)]; omega
  have ha := at_ev d0 d1 (b := b) (T := T) (L := L) (U := U) (t := t) (fun h => rdv_zero (hr h))
  refine ev_step 1 (f := fun k => (oscill_Clock_At.f k d b T L U t).bind fun bt176 => (if t < 0 then (ephemerislaw2_OscillPlays.j6 k d l2 b t bt176.2.2.1 l1 (l1.length : Int) (i : Int) true bt176.2.2.2.1 bt176.2.2.2.2.1 bt176.2.2.2.2.2.1 bt176.2.2.2.2.2.2.1 bt176.2.2.2.2.2.2.2 T L U bt176.1 bt176.2.1) else (ephemerislaw2_OscillPlays.j6 k d l2 b t bt176.2.2.1 l1 (l1.length : Int) (i : Int) (decide (t > 1000000000000)) bt176.2.2.2.1 bt176.2.2.2.2.1 bt176.2.2.2.2.2.1 bt176.2.2.2.2.2.2.1 bt176.2.2.2.2.2.2.2 T L U bt176.1 bt176.2.1))) (fun k => by rw [ephemerislaw2_OscillPlays.j5]) (ev_bind ha ?_)
  by_cases c1 : t < 0 ∨ t > 1000000000000
  · have e : av d b T L U t = (0, 0, 3) := if_pos c1
    rw [e]
    refine ev_step 1 (fun k => ?_) hN
    have hd : (if t < 0 then (ephemerislaw2_OscillPlays.j6 (k + 1) d l2 b t 3 l1 (l1.length : Int) (i : Int) true d b T L U T L U 0 0) else (ephemerislaw2_OscillPlays.j6 (k + 1) d l2 b t 3 l1 (l1.length : Int) (i : Int) (decide (t > 1000000000000)) d b T L U T L U 0 0)) = ephemerislaw2_OscillPlays.j6 (k + 1) d l2 b t 3 l1 (l1.length : Int) (i : Int) true d b T L U T L U 0 0 := by
      by_cases c : t < 0
      · rw [if_pos c]
      · rw [if_neg c, decide_eq_true (by omega)]
    refine hd.trans ?_
    rw [ephemerislaw2_OscillPlays.j6, if_pos rfl, none_eq, Option.bind_some, if_pos rfl, hw]
  · have hd : ∀ (k : Nat) (x y z : Int), (if t < 0 then (ephemerislaw2_OscillPlays.j6 k d l2 b t z l1 (l1.length : Int) (i : Int) true d b T L U T L U x y) else (ephemerislaw2_OscillPlays.j6 k d l2 b t z l1 (l1.length : Int) (i : Int) (decide (t > 1000000000000)) d b T L U T L U x y)) = ephemerislaw2_OscillPlays.j6 k d l2 b t z l1 (l1.length : Int) (i : Int) false d b T L U T L U x y := fun k x y z => by
      rw [if_neg (by omega), decide_eq_false (by omega)]
    refine Ev.congr (fun k => hd k _ _ _) ?_
    cases b
    · have e : av d false T L U t = (0, 0, 10) := by unfold av; rw [if_neg c1, if_neg (by simp)]
      rw [e]
      exact ev_step 1 (fun k => by rw [ephemerislaw2_OscillPlays.j6, if_neg (by simp), if_neg (by simp), none_eq, Option.bind_some, if_pos rfl, hw]) hN
    · have hm := moved_ev d0 d1 (hr rfl) c1
      generalize av d true T L U t = q at *
      obtain ⟨x, y, z⟩ := q
      refine ev_step 1 (f := fun k => (ephemerisref2_Moved.f k d T L U t).bind fun bt186 => (if (!(x == bt186.1) || (!(y == bt186.2.1))) = true then (some false) else (if z = bt186.2.2 then (ephemerislaw2_OscillPlays.l0 k d l2 true l1 (l1.length : Int) ((i + 1 : Nat) : Int) d true T L U T L U) else (some false)))) (fun k => by rw [ephemerislaw2_OscillPlays.j6, if_neg (by simp), if_pos rfl, hw]) (ev_bind hm ?_)
      exact Ev.congr (fun k => by simp) hN
theorem loop (d0 : 0 ≤ d) (d1 : d ≤ 100000) (hl : (l1.length : Int) ≤ 9223372036854775807) : ∀ (s : List Int) (i : Nat) (b : Bool) (T L U : Int), l1.drop i = s → (b = true → rdv T L U = 0) → Ev (fun k => ephemerislaw2_OscillPlays.l0 k d l2 b l1 (l1.length : Int) (i : Int) d b T L U T L U) true := by
  intro s
  induction s with
  | nil =>
    intro i b T L U hd hr
    have hle := drop_nil (l := l1) (i := (i : Int)) (by omega) (by simpa using hd)
    exact ev_some 1 fun k => by rw [ephemerislaw2_OscillPlays.l0, if_neg (by omega)]
  | cons t s ih =>
    intro i b T L U hd hr
    obtain ⟨hlt, hx, ht⟩ := drop_cons (l := l1) (i := (i : Int)) 0 (by omega) (by simpa using hd)
    have hx' : rd l1 (i : Int) = t := hx
    have e1 : ((i : Int) + 1).toNat = i + 1 := by omega
    rw [e1] at ht
    by_cases c : (i : Int) < (l2.length : Int)
    · generalize hlo : (rd_T41 l2 (i : Int)).f0 = lo
      generalize hhi : (rd_T41 l2 (i : Int)).f1 = hi
      have hj4 : Ev (fun k => ephemerislaw2_OscillPlays.j4 k d l2 b (i : Int) t (sx b T t lo hi) l1 (l1.length : Int) (i : Int) d b T L U T L U) true := by
        by_cases z : sx b T t lo hi = 0
        · have hz : rdv t lo hi = 0 := by
            unfold sx at z
            split at z
            · cases z
            · exact z
          refine ev_step 3 (fun k => ?_) (ev_shift 2 (j5_ev (t := t) d0 d1 hl (show i < l1.length by omega) (b := true) (fun _ => hz) (ih (i + 1) true t lo hi ht (fun _ => hz))))
          rw [ephemerislaw2_OscillPlays.j4, if_pos (by omega), if_pos c, hlo, hhi, set_at k, if_pos z, Option.bind_some, z, if_pos rfl, if_pos rfl]
        · refine ev_step 3 (fun k => ?_) (ev_shift 2 (j5_ev (t := t) d0 d1 hl (show i < l1.length by omega) (b := b) hr (ih (i + 1) b T L U ht hr)))
          rw [ephemerislaw2_OscillPlays.j4, if_pos (by omega), if_pos c, hlo, hhi, set_at k, if_neg z, Option.bind_some, if_pos rfl, if_neg z]
      refine ev_step 3 (fun k => ?_) (ev_shift 1 hj4)
      rw [ephemerislaw2_OscillPlays.l0, if_pos hlt, if_pos (by omega), if_pos hlt, if_pos c, hx', hlo, hhi, rerr_at, Option.bind_some]
      by_cases z : rdv t lo hi = 0
      · rw [if_pos z]
        cases b
        · have e : sx false T t lo hi = rdv t lo hi := by unfold sx; rw [if_neg (by simp)]
          rw [if_neg (by simp), ephemerislaw2_OscillPlays.j3, if_neg (by simp), e]
        · rw [if_pos rfl]
          by_cases c4 : t < T
          · have e : sx true T t lo hi = 9 := by unfold sx; rw [if_pos ⟨z, rfl, c4⟩]
            rw [decide_eq_true c4, ephemerislaw2_OscillPlays.j3, if_pos rfl, e]
          · have e : sx true T t lo hi = rdv t lo hi := by unfold sx; rw [if_neg (fun h => c4 h.2.2)]
            rw [decide_eq_false c4, ephemerislaw2_OscillPlays.j3, if_neg (by simp), e]
      · have e : sx b T t lo hi = rdv t lo hi := by unfold sx; rw [if_neg (fun h => z h.1)]
        rw [if_neg z, ephemerislaw2_OscillPlays.j3, if_neg (by simp), e]
    · refine ev_step 1 (fun k => ?_) (j5_ev (t := t) d0 d1 hl (show i < l1.length by omega) hr (ih (i + 1) b T L U ht hr))
      rw [ephemerislaw2_OscillPlays.l0, if_pos hlt, if_pos (by omega), if_pos hlt, if_neg c, hx']
end
theorem bad_ev {d : Int} (h : d < 0 ∨ d > 100000) (l1 : List Int) (l2 : List S41) : Ev (fun k => PBad.ephemerislaw2_OscillPlays.f k d l1 l2) true := by
  refine ev_bind works ?_
  refine Ev.congr (fun k => if_pos rfl) ?_
  refine ev_some 1 fun k => ?_
  by_cases c : d < 0
  · have e : PBad.oscill_New.f d = some 1 := if_pos c
    rw [e, Option.bind_some, if_pos c, PBad.ephemerislaw2_OscillPlays.j0, if_pos rfl, if_pos rfl]
  · have e : PBad.oscill_New.f d = some 1 := by unfold PBad.oscill_New.f; rw [if_neg c, if_pos (by omega)]
    rw [e, Option.bind_some, if_neg c, decide_eq_true (by omega), PBad.ephemerislaw2_OscillPlays.j0, if_pos rfl, if_pos rfl]
theorem OscillPlays : PureX := by
  intro d l1 l2 _ h1 h2
  by_cases c : d < 0 ∨ d > 100000
  · exact Or.inr (ev_k (bad_ev c l1 l2))
  · refine Or.inl (ev_k ?_)
    refine ev_bind works ?_
    refine Ev.congr (fun k => if_pos rfl) ?_
    have e : oscill_New.f d = some (d, false, 0, 0, 0, 0) := by unfold oscill_New.f; rw [if_neg (by omega), if_neg (by omega)]
    rw [e]
    refine Ev.congr (fun k => Option.bind_some _ _) ?_
    refine ev_step 2 (fun k => ?_) (loop (d := d) (l1 := l1) (l2 := l2) (by omega) (by omega) (by have := h1.1; omega) l1 0 false 0 0 0 rfl (fun h => by cases h))
    rw [if_neg (by omega), decide_eq_false (by omega), ephemerislaw2_OscillPlays.j0, if_neg (by simp), if_pos rfl, ephemerislaw2_OscillPlays.j1, if_neg (by simp)]
    rfl
end Go.Proofs.Ytblidfmhlhhmkaa.Pure
