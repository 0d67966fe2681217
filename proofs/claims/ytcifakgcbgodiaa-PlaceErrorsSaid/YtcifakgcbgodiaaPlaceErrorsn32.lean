/- Turned of the program and Arg of the reference: both tell rate * instant / DayLength, rounded down, without whole turns. -/
import Derived.Test.YtcifakgcbgodiaaPlaceErrorsn10
import Derived.Test.YtcifakgcbgodiaaPlaceErrorsn2
import Derived.Test.YtcifakgcbgodiaaPlaceErrorsn31
namespace Go.Proofs.Ytcifakgcbgodiaa.Args
open Go.RowKit Go.Proofs.YtcifakgcbgodiaaW.PrintWords Go.Proofs.YtcifakgcbgodiaaW.PrintLast Go.Proofs.YtcifakgcbgodiaaW.PrintMore Go.Proofs.Ytcifakgcbgodiaa.Opn Go.Proofs.Ytcifakgcbgodiaa.PAll Go.Proofs.Ytcifakgcbgodiaa.Base Go.Proofs.Ytcifakgcbgodiaa.Turn Go.Proofs.Ytcifakgcbgodiaa.Fix Go.Proofs.Ytcifakgcbgodiaa.Oct Go.Proofs.Ytcifakgcbgodiaa.OctT Go.Proofs.Ytcifakgcbgodiaa.SinT Go.Proofs.Ytcifakgcbgodiaa.RefT Go.Proofs.Ytcifakgcbgodiaa.Circ Go.Proofs.Ytcifakgcbgodiaa.Over Go.Proofs.Ytcifakgcbgodiaa.Units
set_option linter.unusedVariables false
set_option linter.unusedSimpArgs false
/-- The argument of a rate and an instant. -/
def arg (r t : Int) : Int := r * t / 86400000 % 1000000000000000
theorem arg_bound (r t : Int) : 0 ≤ arg r t ∧ arg r t < 1000000000000000 := by unfold arg; omega
theorem prod_in {a b A B : Int} (h0 : 0 ≤ a) (h1 : a ≤ A) (h2 : 0 ≤ b) (h3 : b ≤ B) : 0 ≤ a * b ∧ a * b ≤ A * B := ⟨Int.mul_nonneg h0 h2, Int.mul_le_mul h1 h3 h2 (by omega)⟩
theorem mod_mul (r d : Int) : (r % 1000000000000000 * d) % 1000000000000000 = (r * d) % 1000000000000000 := by rw [Int.mul_emod, Int.emod_emod_of_dvd _ (Int.dvd_refl _), ← Int.mul_emod]
/-- The days' part. -/
theorem turned_days {r d : Int} (hd : 0 ≤ d) (hd2 : d ≤ 4000001) : (r % 1000000000000000 * (d / 1000) % 1000000000000000 * 1000 % 1000000000000000 + r % 1000000000000000 * (d % 1000) % 1000000000000000) % 1000000000000000 = r * d % 1000000000000000 := by
  have e : r * d = r * (d / 1000) * 1000 + r * (d % 1000) := by
    have : d = d / 1000 * 1000 + d % 1000 := by omega
    conv => lhs; rw [this]
    rw [Int.mul_add, Int.mul_assoc]
  rw [mod_mul r (d / 1000), mod_mul r (d % 1000), e]
  generalize r * (d / 1000) = x
  generalize r * (d % 1000) = y
  omega
/-- The milliseconds' part. -/
theorem turned_ms {r m : Int} : r / 86400000 * m + (r - r / 86400000 * 86400000) * m / 86400000 = r * m / 86400000 := by
  have e : r * m = (r - r / 86400000 * 86400000) * m + r / 86400000 * m * 86400000 := by
    rw [Int.sub_mul]
    have : r / 86400000 * 86400000 * m = r / 86400000 * m * 86400000 := by rw [Int.mul_assoc, Int.mul_comm 86400000 m, Int.mul_assoc]
    rw [this]; omega
  rw [e]
  generalize (r - r / 86400000 * 86400000) * m = x
  generalize r / 86400000 * m = y
  omega
theorem turned_sum {r t : Int} (s : Int) (a : Int) (h : a % 1000000000000000 = s * (r * (t / 86400000)) % 1000000000000000) (hs : s = 1) : (a + r * (t % 86400000) / 86400000) % 1000000000000000 = arg r t := by
  subst hs
  rw [Int.one_mul] at h
  unfold arg
  have e : r * t = r * (t % 86400000) + r * (t / 86400000) * 86400000 := by
    have : t = t % 86400000 + t / 86400000 * 86400000 := by omega
    conv => lhs; rw [this]
    rw [Int.mul_add, Int.mul_assoc]
  rw [e]
  generalize r * (t % 86400000) = x at *
  generalize r * (t / 86400000) = y at *
  omega
theorem day_bound {t : Int} (h3 : -345600000000000 ≤ t) (h4 : t < 345600086400000) : -4000000 ≤ t / 86400000 ∧ t / 86400000 ≤ 4000000 := by omega
/-- Turned. -/
theorem turned_ev {r t : Int} (h1 : -4000000000000000 ≤ r) (h2 : r ≤ 4000000000000000) (h3 : -345600000000000 ≤ t) (h4 : t < 345600086400000) : Ev (fun k => series_Turned.f k r t) (arg r t) := by
  obtain ⟨d1, d2⟩ := day_bound h3 h4
  have fd := floor_pos (a := t) (b := 86400000) (by omega) (by omega)
  have fr := floor_pos (a := r) (b := 1000000000000000) (by omega) (by omega)
  have fq := floor_pos (a := r) (b := 86400000) (by omega) (by omega)
  have hms : wrap64 (t - wrap64 (t / 86400000 * 86400000)) = t % 86400000 := by
    rw [w64 (x := t / 86400000 * 86400000) (by omega) (by omega), w64 (by omega) (by omega)]; omega
  have hrr : wrap64 (r - wrap64 (r / 1000000000000000 * 1000000000000000)) = r % 1000000000000000 := by
    rw [w64 (x := r / 1000000000000000 * 1000000000000000) (by omega) (by omega), w64 (by omega) (by omega)]; omega
  have m0 : 0 ≤ t % 86400000 := by omega
  have m1 : t % 86400000 < 86400000 := by omega
  have tail : ∀ (d : Int), 0 ≤ d → d ≤ 4000000 → (t / 86400000 = d ∨ t / 86400000 = -d) → Ev (fun k => series_Turned.j0 k r (t / 86400000) (t % 86400000) (r % 1000000000000000) d) (arg r t) := by
    intro d e0 e1 e2
    have td := turned_days (r := r) e0 (show d ≤ 4000001 by omega)
    have tm := turned_ms (r := r) (m := t % 86400000)
    have R0 : 0 ≤ r % 1000000000000000 := by omega
    have R1 : r % 1000000000000000 ≤ 999999999999999 := by omega
    obtain ⟨p1, p2⟩ := prod_in R0 R1 (show 0 ≤ d / 1000 by omega) (show d / 1000 ≤ 4000 by omega)
    obtain ⟨p3, p4⟩ := prod_in R0 R1 (show 0 ≤ d % 1000 by omega) (show d % 1000 ≤ 999 by omega)
    obtain ⟨p5, p6⟩ := prod_in (a := r - r / 86400000 * 86400000) (A := 86399999) (b := t % 86400000) (B := 86399999) (by omega) (by omega) m0 (by omega)
    have p7 : -50000000 * 86400000 ≤ r / 86400000 * (t % 86400000) ∧ r / 86400000 * (t % 86400000) ≤ 50000000 * 86400000 := by
      have q1 : -50000000 ≤ r / 86400000 := by omega
      have q2 : r / 86400000 ≤ 50000000 := by omega
      have k1 := Int.mul_le_mul_of_nonneg_right q1 m0
      have k2 := Int.mul_le_mul_of_nonneg_right q2 m0
      constructor <;> omega
    generalize hP : r % 1000000000000000 * (d / 1000) = P at *
    generalize hQ : r % 1000000000000000 * (d % 1000) = Q at *
    have hday : ∀ z, (z = P % 1000000000000000 * 1000 % 1000000000000000 + Q % 1000000000000000) → (if t / 86400000 < 0 then -z else z) % 1000000000000000 = 1 * (r * (t / 86400000)) % 1000000000000000 := by
      intro z hz
      subst hz
      rw [Int.one_mul]
      by_cases c : t / 86400000 < 0
      · rw [if_pos c]
        have : t / 86400000 = -d := by omega
        rw [this, Int.mul_neg]
        omega
      · rw [if_neg c]
        have : t / 86400000 = d := by omega
        rw [this]
        exact td
    have hsum := fun z hz => turned_sum (r := r) (t := t) 1 _ (hday z hz) rfl
    clear td hday
    have a1 : wrap64 (r % 1000000000000000 * wrap64 (Int.tdiv d 1000)) = P := by
      rw [Int.tdiv_eq_ediv_of_nonneg e0, w64 (x := d / 1000) (by omega) (by omega), hP, w64 (by omega) (by omega)]
    have a2 : wrap64 (r % 1000000000000000 * Int.tmod d 1000) = Q := by
      rw [Int.tmod_eq_emod_of_nonneg e0, hQ, w64 (by omega) (by omega)]
    have a3 : wrap64 (Int.tmod (wrap64 (Int.tmod P 1000000000000000 * 1000)) 1000000000000000 + Int.tmod Q 1000000000000000) = P % 1000000000000000 * 1000 % 1000000000000000 + Q % 1000000000000000 := by
      rw [Int.tmod_eq_emod_of_nonneg p1, Int.tmod_eq_emod_of_nonneg p3, w64 (x := P % 1000000000000000 * 1000) (by omega) (by omega), Int.tmod_eq_emod_of_nonneg (by omega), w64 (by omega) (by omega)]
    have a4 : wrap64 (r - wrap64 (r / 86400000 * 86400000)) = r - r / 86400000 * 86400000 := by
      rw [w64 (x := r / 86400000 * 86400000) (by omega) (by omega), w64 (by omega) (by omega)]
    have a5 : wrap64 (wrap64 (r / 86400000 * (t % 86400000)) + wrap64 (Int.tdiv (wrap64 ((r - r / 86400000 * 86400000) * (t % 86400000))) 86400000)) = r / 86400000 * (t % 86400000) + (r - r / 86400000 * 86400000) * (t % 86400000) / 86400000 := by
      rw [w64 (x := (r - r / 86400000 * 86400000) * (t % 86400000)) (by omega) (by omega), Int.tdiv_eq_ediv_of_nonneg p5, w64 (x := r / 86400000 * (t % 86400000)) (by omega) (by omega), w64 (x := (r - r / 86400000 * 86400000) * (t % 86400000) / 86400000) (by omega) (by omega), w64 (by omega) (by omega)]
    refine ev_some 1 fun k => ?_
    have hz := hsum _ rfl
    rw [← tm] at hz
    have b0 : 0 ≤ P % 1000000000000000 * 1000 % 1000000000000000 + Q % 1000000000000000 ∧ P % 1000000000000000 * 1000 % 1000000000000000 + Q % 1000000000000000 < 2000000000000000 := by omega
    have b1 : -4330000000000000 ≤ r / 86400000 * (t % 86400000) + (r - r / 86400000 * 86400000) * (t % 86400000) / 86400000 ∧ r / 86400000 * (t % 86400000) + (r - r / 86400000 * 86400000) * (t % 86400000) / 86400000 ≤ 4330000086400000 := by omega
    rw [series_Turned.j0]
    by_cases c : t / 86400000 < 0
    · rw [if_pos c, fq, Option.bind_some, a1, a2, a3, a4, a5]
      rw [if_pos c] at hz
      clear a1 a2 a3 a4 a5 hsum tm p1 p2 p3 p4 p5 p6 p7 hP hQ
      generalize P % 1000000000000000 * 1000 % 1000000000000000 + Q % 1000000000000000 = z at *
      generalize r / 86400000 * (t % 86400000) + (r - r / 86400000 * 86400000) * (t % 86400000) / 86400000 = w at *
      rw [w64 (x := -z) (by omega) (by omega), w64 (x := -z + w) (by omega) (by omega), floor_pos (by omega) (by omega), Option.bind_some, w64 (x := (-z + w) / 1000000000000000 * 1000000000000000) (by omega) (by omega), w64 (by omega) (by omega)]
      congr 1; omega
    · rw [if_neg c, fq, Option.bind_some, a1, a2, a3, a4, a5]
      rw [if_neg c] at hz
      clear a1 a2 a3 a4 a5 hsum tm p1 p2 p3 p4 p5 p6 p7 hP hQ
      generalize P % 1000000000000000 * 1000 % 1000000000000000 + Q % 1000000000000000 = z at *
      generalize r / 86400000 * (t % 86400000) + (r - r / 86400000 * 86400000) * (t % 86400000) / 86400000 = w at *
      rw [w64 (x := z + w) (by omega) (by omega), floor_pos (by omega) (by omega), Option.bind_some, w64 (x := (z + w) / 1000000000000000 * 1000000000000000) (by omega) (by omega), w64 (by omega) (by omega)]
      congr 1; omega
  unfold series_Turned.f
  refine Ev.congr (fun k => by rw [fd, Option.bind_some, fr, Option.bind_some, hms, hrr]) ?_
  by_cases c : t / 86400000 < 0
  · refine Ev.congr (fun k => by rw [if_pos c, w64 (x := -(t / 86400000)) (by omega) (by omega)]) ?_
    exact tail (-(t / 86400000)) (by omega) (by omega) (by omega)
  · refine Ev.congr (fun k => if_neg c) ?_
    exact tail (t / 86400000) (by omega) (by omega) (by omega)
end Go.Proofs.Ytcifakgcbgodiaa.Args
