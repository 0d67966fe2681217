/- Turned of the program and Arg of the reference: both tell rate * instant / DayLength, rounded down, without whole turns. -/
import Derived.Test.YtmahlfjnejbcnaaTopSeasonsn29
namespace Go.Proofs.Ytmahlfjnejbcnaa.Args
open Go.RowKit YtmahlfjnejbcnaaW.PrintWords YtmahlfjnejbcnaaW.PrintLast YtmahlfjnejbcnaaW.PrintMore Opn PAll Base Turn Fix Oct OctT SinT RefT Circ Over Units
set_option linter.unusedVariables false
set_option linter.unusedSimpArgs false
theorem low1 {x : Int} (h0 : 0 ≤ x) (h1 : x ≤ 9223372036854775807) : Go.bits .and .i64 x 1 = x % 2 := by
 have := bits_mask .i64 63 (by decide) wrap_i64_nn 1 (by decide) x h0 (by omega)
 simpa using this
def arg (r t : Int) : Int := r * t / 86400000 % 1000000000000000
theorem arg_bound (r t : Int) : 0 ≤ arg r t ∧ arg r t < 1000000000000000 := by unfold arg; omega
theorem arg_step (R J b : Int) (hb : b = 0 ∨ b = 1) : (2 * (R * J / 86400000 % 1000000000000000) + (2 * (R * J % 86400000) + b * R) / 86400000) % 1000000000000000 = R * (2 * J + b) / 86400000 % 1000000000000000 ∧ (2 * (R * J % 86400000) + b * R) % 86400000 = R * (2 * J + b) % 86400000 := by
 have e : R * (2 * J + b) = 2 * (R * J) + b * R := by
  rw [Int.mul_add, Int.mul_comm b R, ← Int.mul_assoc, Int.mul_comm R 2, Int.mul_assoc]
 rw [e]
 generalize R * J = X
 generalize b * R = Y
 constructor <;> omega
theorem arg_loop {R I : Int} {m : Bool} (hR : 0 ≤ R) (hR2 : R ≤ 4000000000000000) (hI : 0 ≤ I) (hI2 : I ≤ 345600086400000) (r : Int) (hr : Ev (fun k => ephemerisref2_Arg.l0 k R I m (R * I / 86400000 % 1000000000000000) (R * I % 86400000) (-1)) r) : ∀ n : Nat, n ≤ 51 → Ev (fun k => ephemerisref2_Arg.l0 k R I m (R * (I / 2 ^ n) / 86400000 % 1000000000000000) (R * (I / 2 ^ n) % 86400000) ((n : Int) - 1)) r
 | 0, _ => by
  simpa using hr
 | n + 1, hn => by
  have ih := arg_loop hR hR2 hI hI2 r hr n (by omega)
  have ep : I / 2 ^ n / 2 = I / 2 ^ (n + 1) := by
   have : (0 : Int) < 2 ^ n := Int.pow_pos (by omega)
   rw [Int.pow_succ, Int.ediv_ediv, if_neg (by omega), Int.sub_zero]
  have hp : (0 : Int) < 2 ^ n := Int.pow_pos (by omega)
  have hJ0 : 0 ≤ I / 2 ^ n := Int.ediv_nonneg hI (by omega)
  have hJ1 : I / 2 ^ n ≤ I := Int.ediv_le_self _ hI
  have hb : I / 2 ^ n % 2 = 0 ∨ I / 2 ^ n % 2 = 1 := by omega
  have hJ : I / 2 ^ n = 2 * (I / 2 ^ (n + 1)) + I / 2 ^ n % 2 := by rw [← ep]; omega
  obtain ⟨s1, s2⟩ := arg_step R (I / 2 ^ (n + 1)) (I / 2 ^ n % 2) hb
  rw [← hJ] at s1 s2
  have x1 : 0 ≤ R * (I / 2 ^ (n + 1)) / 86400000 % 1000000000000000 := by omega
  have x2 : R * (I / 2 ^ (n + 1)) / 86400000 % 1000000000000000 < 1000000000000000 := by omega
  have y1 : 0 ≤ R * (I / 2 ^ (n + 1)) % 86400000 := by omega
  have y2 : R * (I / 2 ^ (n + 1)) % 86400000 < 86400000 := by omega
  have hs : shr .i64 I ((n : Int)) = I / 2 ^ n := by
   unfold shr
   rw [Nat.min_eq_left (by show (n : Int).toNat ≤ 64; omega), Int.toNat_natCast]
  rw [show ((n + 1 : Nat) : Int) - 1 = (n : Int) by push_cast; omega]
  rw [← s1, ← s2] at ih
  generalize R * (I / 2 ^ (n + 1)) / 86400000 % 1000000000000000 = x at *
  generalize R * (I / 2 ^ (n + 1)) % 86400000 = y at *
  refine ev_step 1 (fun k => ?_) ih
  rw [ephemerisref2_Arg.l0, if_pos (by omega), if_pos (by omega), hs, low1 hJ0 (by omega), w64 (x := (n : Int) - 1) (by omega) (by omega), w64 (x := 2 * x) (by omega) (by omega), w64 (x := 2 * y) (by omega) (by omega)]
  rcases hb with hb | hb
  ·rw [hb, if_neg (by omega), Int.zero_mul, Int.add_zero]
   rw [Int.tdiv_eq_ediv_of_nonneg (by omega), Int.tmod_eq_emod_of_nonneg (show 0 ≤ 2 * y by omega), w64 (x := 2 * y / 86400000) (by omega) (by omega), w64 (x := 2 * x + 2 * y / 86400000) (by omega) (by omega), Int.tmod_eq_emod_of_nonneg (show 0 ≤ 2 * x + 2 * y / 86400000 by omega)]
  ·rw [hb, if_pos rfl, Int.one_mul, w64 (x := 2 * y + R) (by omega) (by omega)]
   rw [Int.tdiv_eq_ediv_of_nonneg (by omega), Int.tmod_eq_emod_of_nonneg (show 0 ≤ 2 * y + R by omega), w64 (x := (2 * y + R) / 86400000) (by omega) (by omega), w64 (x := 2 * x + (2 * y + R) / 86400000) (by omega) (by omega), Int.tmod_eq_emod_of_nonneg (show 0 ≤ 2 * x + (2 * y + R) / 86400000 by omega)]
theorem arg_run {R I : Int} {m : Bool} (hR : 0 ≤ R) (hR2 : R ≤ 4000000000000000) (hI : 0 ≤ I) (hI2 : I ≤ 345600086400000) : Ev (fun k => ephemerisref2_Arg.l0 k R I m 0 0 50) ((if m then -(R * I) else R * I) / 86400000 % 1000000000000000) := by
 have last : Ev (fun k => ephemerisref2_Arg.l0 k R I m (R * I / 86400000 % 1000000000000000) (R * I % 86400000) (-1)) ((if m then -(R * I) else R * I) / 86400000 % 1000000000000000) := by
  refine ev_some 1 fun k => ?_
  generalize R * I = X
  rw [ephemerisref2_Arg.l0, if_neg (by omega)]
  cases m
  ·rw [if_neg (by simp), mod_pos (by omega) (by omega), Option.bind_some]
   simp only [Bool.false_eq_true, if_false]
   congr 1; omega
  ·rw [if_pos rfl, w64 (x := -(X / 86400000 % 1000000000000000)) (by omega) (by omega)]
   by_cases c : X % 86400000 > 0
   ·rw [if_pos c, w64 (by omega) (by omega), mod_pos (by omega) (by omega), Option.bind_some]
    simp only [if_true]
    congr 1; omega
   ·rw [if_neg c, mod_pos (by omega) (by omega), Option.bind_some]
    simp only [if_true]
    congr 1; omega
 have h := arg_loop hR hR2 hI hI2 _ last 51 (by omega)
 have e : I / 2 ^ 51 = 0 := by
  have : (2 : Int) ^ 51 = 2251799813685248 := by decide
  rw [this]; omega
 rw [e, Int.mul_zero] at h
 exact h
theorem arg_ev {r t : Int} (h1 : -4000000000000000 ≤ r) (h2 : r ≤ 4000000000000000) (h3 : -345600000000000 ≤ t) (h4 : t < 345600086400000) : Ev (fun k => ephemerisref2_Arg.f k r t) (arg r t) := by
 unfold arg
 by_cases c : r < 0
 ·by_cases d : t < 0
  ·have h := arg_run (R := -r) (I := -t) (m := false) (by omega) (by omega) (by omega) (by omega)
   rw [Int.neg_mul_neg] at h
   refine ev_step 2 (fun k => ?_) h
   unfold ephemerisref2_Arg.f
   rw [if_pos c, w64 (x := -r) (by omega) (by omega), ephemerisref2_Arg.j0, if_pos d, w64 (x := -t) (by omega) (by omega), ephemerisref2_Arg.j1]
   rw [decide_eq_true c, decide_eq_true d]; rfl
  ·have h := arg_run (R := -r) (I := t) (m := true) (by omega) (by omega) (by omega) (by omega)
   rw [if_pos rfl, Int.neg_mul, Int.neg_neg] at h
   refine ev_step 2 (fun k => ?_) h
   unfold ephemerisref2_Arg.f
   rw [if_pos c, w64 (x := -r) (by omega) (by omega), ephemerisref2_Arg.j0, if_neg d, ephemerisref2_Arg.j1]
   rw [decide_eq_true c, decide_eq_false d]; rfl
 ·by_cases d : t < 0
  ·have h := arg_run (R := r) (I := -t) (m := true) (by omega) (by omega) (by omega) (by omega)
   rw [if_pos rfl, Int.mul_neg, Int.neg_neg] at h
   refine ev_step 2 (fun k => ?_) h
   unfold ephemerisref2_Arg.f
   rw [if_neg c, ephemerisref2_Arg.j0, if_pos d, w64 (x := -t) (by omega) (by omega), ephemerisref2_Arg.j1]
   rw [decide_eq_false c, decide_eq_true d]; rfl
  ·have h := arg_run (R := r) (I := t) (m := false) (by omega) (by omega) (by omega) (by omega)
   refine ev_step 2 (fun k => ?_) h
   unfold ephemerisref2_Arg.f
   rw [if_neg c, ephemerisref2_Arg.j0, if_neg d, ephemerisref2_Arg.j1]
   rw [decide_eq_false c, decide_eq_false d]; rfl
theorem prod_in {a b A B : Int} (h0 : 0 ≤ a) (h1 : a ≤ A) (h2 : 0 ≤ b) (h3 : b ≤ B) : 0 ≤ a * b ∧ a * b ≤ A * B := ⟨Int.mul_nonneg h0 h2, Int.mul_le_mul h1 h3 h2 (by omega)⟩
theorem mod_mul (r d : Int) : (r % 1000000000000000 * d) % 1000000000000000 = (r * d) % 1000000000000000 := by rw [Int.mul_emod, Int.emod_emod_of_dvd _ (Int.dvd_refl _), ← Int.mul_emod]
theorem turned_days {r d : Int} (hd : 0 ≤ d) (hd2 : d ≤ 4000001) : (r % 1000000000000000 * (d / 1000) % 1000000000000000 * 1000 % 1000000000000000 + r % 1000000000000000 * (d % 1000) % 1000000000000000) % 1000000000000000 = r * d % 1000000000000000 := by
 have e : r * d = r * (d / 1000) * 1000 + r * (d % 1000) := by
  have : d = d / 1000 * 1000 + d % 1000 := by omega
  conv => lhs; rw [this]
  rw [Int.mul_add, Int.mul_assoc]
 rw [mod_mul r (d / 1000), mod_mul r (d % 1000), e]
 generalize r * (d / 1000) = x
 generalize r * (d % 1000) = y
 omega
theorem turned_ms {r m : Int} : r / 86400000 * m + (r - r / 86400000 * 86400000) * m / 86400000 = r * m / 86400000 := by
 have e : r * m = (r - r / 86400000 * 86400000) * m + r / 86400000 * m * 86400000 := by
  rw [Int.sub_mul]
  have : r / 86400000 * 86400000 * m = r / 86400000 * m * 86400000 := by rw [Int.mul_assoc, Int.mul_comm 86400000 m, Int.mul_assoc]
  rw [this]; omega
 rw [e]
 generalize (r - r / 86400000 * 86400000) * m = x
 generalize r / 86400000 * m = y
 omega
theorem turned_sum {r t : Int} (s : Int) (a : Int) (h : a % 1000000000000000 = s * (r * (t / 86400000)) % 1000000000000000) (hs : s = 1) : (a + r * (t % 86400000) / 86400000) % 1000000000000000 = arg r t := by
 subst hs
 rw [Int.one_mul] at h
 unfold arg
 have e : r * t = r * (t % 86400000) + r * (t / 86400000) * 86400000 := by
  have : t = t % 86400000 + t / 86400000 * 86400000 := by omega
  conv => lhs; rw [this]
  rw [Int.mul_add, Int.mul_assoc]
 rw [e]
 generalize r * (t % 86400000) = x at *
 generalize r * (t / 86400000) = y at *
 omega
theorem day_bound {t : Int} (h3 : -345600000000000 ≤ t) (h4 : t < 345600086400000) : -4000000 ≤ t / 86400000 ∧ t / 86400000 ≤ 4000000 := by omega
theorem turned_ev {r t : Int} (h1 : -4000000000000000 ≤ r) (h2 : r ≤ 4000000000000000) (h3 : -345600000000000 ≤ t) (h4 : t < 345600086400000) : Ev (fun k => series_Turned.f k r t) (arg r t) := by
 obtain ⟨d1, d2⟩ := day_bound h3 h4
 have fd := floor_pos (a := t) (b := 86400000) (by omega) (by omega)
 have fr := floor_pos (a := r) (b := 1000000000000000) (by omega) (by omega)
 have fq := floor_pos (a := r) (b := 86400000) (by omega) (by omega)
 have hms : wrap64 (t - wrap64 (t / 86400000 * 86400000)) = t % 86400000 := by
  rw [w64 (x := t / 86400000 * 86400000) (by omega) (by omega), w64 (by omega) (by omega)]; omega
 have hrr : wrap64 (r - wrap64 (r / 1000000000000000 * 1000000000000000)) = r % 1000000000000000 := by
  rw [w64 (x := r / 1000000000000000 * 1000000000000000) (by omega) (by omega), w64 (by omega) (by omega)]; omega
 have m0 : 0 ≤ t % 86400000 := by omega
 have m1 : t % 86400000 < 86400000 := by omega
 have tail : ∀ (d : Int), 0 ≤ d → d ≤ 4000000 → (t / 86400000 = d ∨ t / 86400000 = -d) → Ev (fun k => series_Turned.j0 k r (t / 86400000) (t % 86400000) (r % 1000000000000000) d) (arg r t) := by
  intro d e0 e1 e2
  have td := turned_days (r := r) e0 (show d ≤ 4000001 by omega)
  have tm := turned_ms (r := r) (m := t % 86400000)
  have R0 : 0 ≤ r % 1000000000000000 := by omega
  have R1 : r % 1000000000000000 ≤ 999999999999999 := by omega
  obtain ⟨p1, p2⟩ := prod_in R0 R1 (show 0 ≤ d / 1000 by omega) (show d / 1000 ≤ 4000 by omega)
  obtain ⟨p3, p4⟩ := prod_in R0 R1 (show 0 ≤ d % 1000 by omega) (show d % 1000 ≤ 999 by omega)
  obtain ⟨p5, p6⟩ := prod_in (a := r - r / 86400000 * 86400000) (A := 86399999) (b := t % 86400000) (B := 86399999) (by omega) (by omega) m0 (by omega)
  have p7 : -50000000 * 86400000 ≤ r / 86400000 * (t % 86400000) ∧ r / 86400000 * (t % 86400000) ≤ 50000000 * 86400000 := by
   have q1 : -50000000 ≤ r / 86400000 := by omega
   have q2 : r / 86400000 ≤ 50000000 := by omega
   have k1 := Int.mul_le_mul_of_nonneg_right q1 m0
   have k2 := Int.mul_le_mul_of_nonneg_right q2 m0
   constructor <;> omega
  generalize hP : r % 1000000000000000 * (d / 1000) = P at *
  generalize hQ : r % 1000000000000000 * (d % 1000) = Q at *
  have hday : ∀ z, (z = P % 1000000000000000 * 1000 % 1000000000000000 + Q % 1000000000000000) → (if t / 86400000 < 0 then -z else z) % 1000000000000000 = 1 * (r * (t / 86400000)) % 1000000000000000 := by
   intro z hz
   subst hz
   rw [Int.one_mul]
   by_cases c : t / 86400000 < 0
   ·rw [if_pos c]
    have : t / 86400000 = -d := by omega
    rw [this, Int.mul_neg]
    omega
   ·rw [if_neg c]
    have : t / 86400000 = d := by omega
    rw [this]
    exact td
  have hsum := fun z hz => turned_sum (r := r) (t := t) 1 _ (hday z hz) rfl
  clear td hday
  have a1 : wrap64 (r % 1000000000000000 * wrap64 (Int.tdiv d 1000)) = P := by
   rw [Int.tdiv_eq_ediv_of_nonneg e0, w64 (x := d / 1000) (by omega) (by omega), hP, w64 (by omega) (by omega)]
  have a2 : wrap64 (r % 1000000000000000 * Int.tmod d 1000) = Q := by
   rw [Int.tmod_eq_emod_of_nonneg e0, hQ, w64 (by omega) (by omega)]
  have a3 : wrap64 (Int.tmod (wrap64 (Int.tmod P 1000000000000000 * 1000)) 1000000000000000 + Int.tmod Q 1000000000000000) = P % 1000000000000000 * 1000 % 1000000000000000 + Q % 1000000000000000 := by
   rw [Int.tmod_eq_emod_of_nonneg p1, Int.tmod_eq_emod_of_nonneg p3, w64 (x := P % 1000000000000000 * 1000) (by omega) (by omega), Int.tmod_eq_emod_of_nonneg (by omega), w64 (by omega) (by omega)]
  have a4 : wrap64 (r - wrap64 (r / 86400000 * 86400000)) = r - r / 86400000 * 86400000 := by
   rw [w64 (x := r / 86400000 * 86400000) (by omega) (by omega), w64 (by omega) (by omega)]
  have a5 : wrap64 (wrap64 (r / 86400000 * (t % 86400000)) + wrap64 (Int.tdiv (wrap64 ((r - r / 86400000 * 86400000) * (t % 86400000))) 86400000)) = r / 86400000 * (t % 86400000) + (r - r / 86400000 * 86400000) * (t % 86400000) / 86400000 := by
   rw [w64 (x := (r - r / 86400000 * 86400000) * (t % 86400000)) (by omega) (by omega), Int.tdiv_eq_ediv_of_nonneg p5, w64 (x := r / 86400000 * (t % 86400000)) (by omega) (by omega), w64 (x := (r - r / 86400000 * 86400000) * (t % 86400000) / 86400000) (by omega) (by omega), w64 (by omega) (by omega)]
  refine ev_some 1 fun k => ?_
  have hz := hsum _ rfl
  rw [← tm] at hz
  have b0 : 0 ≤ P % 1000000000000000 * 1000 % 1000000000000000 + Q % 1000000000000000 ∧ P % 1000000000000000 * 1000 % 1000000000000000 + Q % 1000000000000000 < 2000000000000000 := by omega
  have b1 : -4330000000000000 ≤ r / 86400000 * (t % 86400000) + (r - r / 86400000 * 86400000) * (t % 86400000) / 86400000 ∧ r / 86400000 * (t % 86400000) + (r - r / 86400000 * 86400000) * (t % 86400000) / 86400000 ≤ 4330000086400000 := by omega
  rw [series_Turned.j0]
  by_cases c : t / 86400000 < 0
  ·rw [if_pos c, fq, Option.bind_some, a1, a2, a3, a4, a5]
   rw [if_pos c] at hz
   clear a1 a2 a3 a4 a5 hsum tm p1 p2 p3 p4 p5 p6 p7 hP hQ
   generalize P % 1000000000000000 * 1000 % 1000000000000000 + Q % 1000000000000000 = z at *
   generalize r / 86400000 * (t % 86400000) + (r - r / 86400000 * 86400000) * (t % 86400000) / 86400000 = w at *
   rw [w64 (x := -z) (by omega) (by omega), w64 (x := -z + w) (by omega) (by omega), floor_pos (by omega) (by omega), Option.bind_some, w64 (x := (-z + w) / 1000000000000000 * 1000000000000000) (by omega) (by omega), w64 (by omega) (by omega)]
   congr 1; omega
  ·rw [if_neg c, fq, Option.bind_some, a1, a2, a3, a4, a5]
   rw [if_neg c] at hz
   clear a1 a2 a3 a4 a5 hsum tm p1 p2 p3 p4 p5 p6 p7 hP hQ
   generalize P % 1000000000000000 * 1000 % 1000000000000000 + Q % 1000000000000000 = z at *
   generalize r / 86400000 * (t % 86400000) + (r - r / 86400000 * 86400000) * (t % 86400000) / 86400000 = w at *
   rw [w64 (x := z + w) (by omega) (by omega), floor_pos (by omega) (by omega), Option.bind_some, w64 (x := (z + w) / 1000000000000000 * 1000000000000000) (by omega) (by omega), w64 (by omega) (by omega)]
   congr 1; omega
 unfold series_Turned.f
 refine Ev.congr (fun k => by rw [fd, Option.bind_some, fr, Option.bind_some, hms, hrr]) ?_
 by_cases c : t / 86400000 < 0
 ·refine Ev.congr (fun k => by rw [if_pos c, w64 (x := -(t / 86400000)) (by omega) (by omega)]) ?_
  exact tail (-(t / 86400000)) (by omega) (by omega) (by omega)
 ·refine Ev.congr (fun k => if_neg c) ?_
  exact tail (t / 86400000) (by omega) (by omega) (by omega)
end Go.Proofs.Ytmahlfjnejbcnaa.Args
