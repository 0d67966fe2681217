/- Turned of the program and Arg of the reference: both tell rate * instant / DayLength, rounded down, without whole turns. -/
import Derived.Test.YtelcegpaakbppaaSeriesSlopesn9
import Derived.Test.YtelcegpaakbppaaSeriesSlopesn13
import Derived.Test.YtelcegpaakbppaaSeriesSlopesn25
namespace Go.Proofs.Ytelcegpaakbppaa.Args
open Go.RowKit Go.Proofs.YtelcegpaakbppaaW.PrintWords Go.Proofs.YtelcegpaakbppaaW.PrintLast Go.Proofs.YtelcegpaakbppaaW.PrintMore Go.Proofs.Ytelcegpaakbppaa.Opn Go.Proofs.Ytelcegpaakbppaa.PAll Go.Proofs.Ytelcegpaakbppaa.Base Go.Proofs.Ytelcegpaakbppaa.Turn Go.Proofs.Ytelcegpaakbppaa.Fix Go.Proofs.Ytelcegpaakbppaa.OctT Go.Proofs.Ytelcegpaakbppaa.SinT Go.Proofs.Ytelcegpaakbppaa.RefT Go.Proofs.Ytelcegpaakbppaa.Circ Go.Proofs.Ytelcegpaakbppaa.Units
set_option linter.unusedVariables false
set_option linter.unusedSimpArgs false
theorem low1 {x : Int} (h0 : 0 ≤ x) (h1 : x ≤ 9223372036854775807) : Go.bits .and .i64 x 1 = x % 2 := by
  have := bits_mask .i64 63 (by decide) wrap_i64_nn 1 (by decide) x h0 (by omega)
  simpa using this
/-- The argument of a rate and an instant. -/
def arg (r t : Int) : Int := r * t / 86400000 % 1000000000000000
theorem arg_bound (r t : Int) : 0 ≤ arg r t ∧ arg r t < 1000000000000000 := by unfold arg; omega
/-- One bit. -/
theorem arg_step (R J b : Int) (hb : b = 0 ∨ b = 1) : (2 * (R * J / 86400000 % 1000000000000000) + (2 * (R * J % 86400000) + b * R) / 86400000) % 1000000000000000 = R * (2 * J + b) / 86400000 % 1000000000000000 ∧ (2 * (R * J % 86400000) + b * R) % 86400000 = R * (2 * J + b) % 86400000 := by
  have e : R * (2 * J + b) = 2 * (R * J) + b * R := by
    rw [Int.mul_add, Int.mul_comm b R, ← Int.mul_assoc, Int.mul_comm R 2, Int.mul_assoc]
  rw [e]
  generalize R * J = X
  generalize b * R = Y
  constructor <;> omega
theorem arg_loop {R I : Int} {m : Bool} (hR : 0 ≤ R) (hR2 : R ≤ 4000000000000000) (hI : 0 ≤ I) (hI2 : I ≤ 345600086400000) (r : Int) (hr : Ev (fun k => ephemerisref2_Arg.l0 k R I m (R * I / 86400000 % 1000000000000000) (R * I % 86400000) (-1)) r) : ∀ n : Nat, n ≤ 51 → Ev (fun k => ephemerisref2_Arg.l0 k R I m (R * (I / 2 ^ n) / 86400000 % 1000000000000000) (R * (I / 2 ^ n) % 86400000) ((n : Int) - 1)) r
  | 0, _ => by
    simpa using hr
  | n + 1, hn => by
    have ih := arg_loop hR hR2 hI hI2 r hr n (by omega)
    have ep : I / 2 ^ n / 2 = I / 2 ^ (n + 1) := by
      have : (0 : Int) < 2 ^ n := Int.pow_pos (by omega)
      rw [Int.pow_succ, Int.ediv_ediv, if_neg (by omega), Int.sub_zero]
    have hp : (0 : Int) < 2 ^ n := Int.pow_pos (by omega)
    have hJ0 : 0 ≤ I / 2 ^ n := Int.ediv_nonneg hI (by omega)
    have hJ1 : I / 2 ^ n ≤ I := Int.ediv_le_self _ hI
    have hb : I / 2 ^ n % 2 = 0 ∨ I / 2 ^ n % 2 = 1 := by omega
    have hJ : I / 2 ^ n = 2 * (I / 2 ^ (n + 1)) + I / 2 ^ n % 2 := by rw [← ep]; omega
    obtain ⟨s1, s2⟩ := arg_step R (I / 2 ^ (n + 1)) (I / 2 ^ n % 2) hb
    rw [← hJ] at s1 s2
    have x1 : 0 ≤ R * (I / 2 ^ (n + 1)) / 86400000 % 1000000000000000 := by omega
    have x2 : R * (I / 2 ^ (n + 1)) / 86400000 % 1000000000000000 < 1000000000000000 := by omega
    have y1 : 0 ≤ R * (I / 2 ^ (n + 1)) % 86400000 := by omega
    have y2 : R * (I / 2 ^ (n + 1)) % 86400000 < 86400000 := by omega
    have hs : shr .i64 I ((n : Int)) = I / 2 ^ n := by
      unfold shr
      rw [Nat.min_eq_left (by show (n : Int).toNat ≤ 64; omega), Int.toNat_natCast]
    rw [show ((n + 1 : Nat) : Int) - 1 = (n : Int) by push_cast; omega]
    rw [← s1, ← s2] at ih
    generalize R * (I / 2 ^ (n + 1)) / 86400000 % 1000000000000000 = x at *
    generalize R * (I / 2 ^ (n + 1)) % 86400000 = y at *
    refine ev_step 1 (fun k => ?_) ih
    rw [ephemerisref2_Arg.l0, if_pos (by omega), if_pos (by omega), hs, low1 hJ0 (by omega), w64 (x := (n : Int) - 1) (by omega) (by omega), w64 (x := 2 * x) (by omega) (by omega), w64 (x := 2 * y) (by omega) (by omega)]
    rcases hb with hb | hb
    · rw [hb, if_neg (by omega), Int.zero_mul, Int.add_zero]
      rw [Int.tdiv_eq_ediv_of_nonneg (by omega), Int.tmod_eq_emod_of_nonneg (show 0 ≤ 2 * y by omega), w64 (x := 2 * y / 86400000) (by omega) (by omega), w64 (x := 2 * x + 2 * y / 86400000) (by omega) (by omega), Int.tmod_eq_emod_of_nonneg (show 0 ≤ 2 * x + 2 * y / 86400000 by omega)]
    · rw [hb, if_pos rfl, Int.one_mul, w64 (x := 2 * y + R) (by omega) (by omega)]
      rw [Int.tdiv_eq_ediv_of_nonneg (by omega), Int.tmod_eq_emod_of_nonneg (show 0 ≤ 2 * y + R by omega), w64 (x := (2 * y + R) / 86400000) (by omega) (by omega), w64 (x := 2 * x + (2 * y + R) / 86400000) (by omega) (by omega), Int.tmod_eq_emod_of_nonneg (show 0 ≤ 2 * x + (2 * y + R) / 86400000 by omega)]
theorem arg_run {R I : Int} {m : Bool} (hR : 0 ≤ R) (hR2 : R ≤ 4000000000000000) (hI : 0 ≤ I) (hI2 : I ≤ 345600086400000) : Ev (fun k => ephemerisref2_Arg.l0 k R I m 0 0 50) ((if m then -(R * I) else R * I) / 86400000 % 1000000000000000) := by
  have last : Ev (fun k => ephemerisref2_Arg.l0 k R I m (R * I / 86400000 % 1000000000000000) (R * I % 86400000) (-1)) ((if m then -(R * I) else R * I) / 86400000 % 1000000000000000) := by
    refine ev_some 1 fun k => ?_
    generalize R * I = X
    rw [ephemerisref2_Arg.l0, if_neg (by omega)]
    cases m
    · rw [if_neg (by simp), mod_pos (by omega) (by omega), Option.bind_some]
      simp only [Bool.false_eq_true, if_false]
      congr 1; omega
    · rw [if_pos rfl, w64 (x := -(X / 86400000 % 1000000000000000)) (by omega) (by omega)]
      by_cases c : X % 86400000 > 0
      · rw [if_pos c, w64 (by omega) (by omega), mod_pos (by omega) (by omega), Option.bind_some]
        simp only [if_true]
        congr 1; omega
      · rw [if_neg c, mod_pos (by omega) (by omega), Option.bind_some]
        simp only [if_true]
        congr 1; omega
  have h := arg_loop hR hR2 hI hI2 _ last 51 (by omega)
  have e : I / 2 ^ 51 = 0 := by
    have : (2 : Int) ^ 51 = 2251799813685248 := by decide
    rw [this]; omega
  rw [e, Int.mul_zero] at h
  exact h
/-- Arg. -/
theorem arg_ev {r t : Int} (h1 : -4000000000000000 ≤ r) (h2 : r ≤ 4000000000000000) (h3 : -345600000000000 ≤ t) (h4 : t < 345600086400000) : Ev (fun k => ephemerisref2_Arg.f k r t) (arg r t) := by
  unfold arg
  by_cases c : r < 0
  · by_cases d : t < 0
    · have h := arg_run (R := -r) (I := -t) (m := false) (by omega) (by omega) (by omega) (by omega)
      rw [Int.neg_mul_neg] at h
      refine ev_step 2 (fun k => ?_) h
      unfold ephemerisref2_Arg.f
      rw [if_pos c, w64 (x := -r) (by omega) (by omega), ephemerisref2_Arg.j0, if_pos d, w64 (x := -t) (by omega) (by omega), ephemerisref2_Arg.j1]
      rw [decide_eq_true c, decide_eq_true d]; rfl
    · have h := arg_run (R := -r) (I := t) (m := true) (by omega) (by omega) (by omega) (by omega)
      rw [if_pos rfl, Int.neg_mul, Int.neg_neg] at h
      refine ev_step 2 (fun k => ?_) h
      unfold ephemerisref2_Arg.f
      rw [if_pos c, w64 (x := -r) (by omega) (by omega), ephemerisref2_Arg.j0, if_neg d, ephemerisref2_Arg.j1]
      rw [decide_eq_true c, decide_eq_false d]; rfl
  · by_cases d : t < 0
    · have h := arg_run (R := r) (I := -t) (m := true) (by omega) (by omega) (by omega) (by omega)
      rw [if_pos rfl, Int.mul_neg, Int.neg_neg] at h
      refine ev_step 2 (fun k => ?_) h
      unfold ephemerisref2_Arg.f
      rw [if_neg c, ephemerisref2_Arg.j0, if_pos d, w64 (x := -t) (by omega) (by omega), ephemerisref2_Arg.j1]
      rw [decide_eq_false c, decide_eq_true d]; rfl
    · have h := arg_run (R := r) (I := t) (m := false) (by omega) (by omega) (by omega) (by omega)
      refine ev_step 2 (fun k => ?_) h
      unfold ephemerisref2_Arg.f
      rw [if_neg c, ephemerisref2_Arg.j0, if_neg d, ephemerisref2_Arg.j1]
      rw [decide_eq_false c, decide_eq_false d]; rfl
theorem prod_in {a b A B : Int} (h0 : 0 ≤ a) (h1 : a ≤ A) (h2 : 0 ≤ b) (h3 : b ≤ B) : 0 ≤ a * b ∧ a * b ≤ A * B := ⟨Int.mul_nonneg h0 h2, Int.mul_le_mul h1 h3 h2 (by omega)⟩
end Go.Proofs.Ytelcegpaakbppaa.Args
