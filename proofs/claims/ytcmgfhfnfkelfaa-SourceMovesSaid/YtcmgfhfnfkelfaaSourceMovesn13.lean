/- SourceMoves: Moved and All are what the document says. -/
import Derived.Test.YtcmgfhfnfkelfaaSourceMovesn7
import Derived.Test.YtcmgfhfnfkelfaaSourceMovesn6
import Derived.Test.YtcmgfhfnfkelfaaSourceMovesn8
import Derived.Test.YtcmgfhfnfkelfaaSourceMovesn9
import Derived.Test.YtcmgfhfnfkelfaaSourceMovesn11
import Derived.Test.YtcmgfhfnfkelfaaSourceMovesn12
import Derived.Test.YtcmgfhfnfkelfaaSourceMovesn2
namespace Go.Proofs.Ytcmgfhfnfkelfaa.Pure
open Go Go.RowKit Go.Proofs.YtcmgfhfnfkelfaaW.PrintWords Go.Proofs.YtcmgfhfnfkelfaaW.PrintLast Go.Proofs.YtcmgfhfnfkelfaaW.PrintMore Go.Proofs.Ytcmgfhfnfkelfaa.Opn Go.Proofs.Ytcmgfhfnfkelfaa.PAll Go.Proofs.Ytcmgfhfnfkelfaa.Base
set_option linter.unusedVariables false
set_option linter.unusedSimpArgs false
/-- the words of the executor's trees -/
theorem ob_ev {α β : Type} {g : Nat → Option α} {f : Nat → α → Option β} {a : α} {r : β} (h : Ev g a) (k : Ev (fun n => f n a) r) : Ev (fun n => Sx.ob (g n) (f n)) r := by
  refine Ev.congr (fun n => Sx.ob_eq _ _) ?_
  exact ev_bind h k
theorem oif_pos {β : Type} {c : Prop} [inst : Decidable c] {A B : Option β} (h : c) : Sx.oif c A B = A := by rw [Sx.oif_eq, if_pos h]
theorem oif_neg {β : Type} {c : Prop} [inst : Decidable c] {A B : Option β} (h : ¬ c) : Sx.oif c A B = B := by rw [Sx.oif_eq, if_neg h]
theorem iw (x : Int) : IntKind.i64.wrap x = wrap64 x := i64_w x
theorem bne0 {x : Int} (h : x = 0) : ¬ (x != 0) = true := by simp [h]
theorem bne1 {x : Int} (h : x ≠ 0) : (x != 0) = true := by simp [h]
theorem ilt_or (a b : Int) : a < b ∨ b ≤ a := by omega
/-- What a pair of bounds is found to be. -/
def sp (a b : Int) : Int := if a < -1000000000000000000 ∨ a > 1000000000000000000 ∨ b < -1000000000000000000 ∨ b > 1000000000000000000 then 3 else if b < a then 9 else 0
theorem interval_Check_at (k : Nat) (a b : Int) : interval_Check.f (k + 1) a b = some (sp a b) := by
  unfold interval_Check.f interval_out.f sp
  by_cases c1 : a < -1000000000000000000
  · simp [c1, interval_Check.j0]
  by_cases c2 : a > 1000000000000000000
  · simp [c1, c2, interval_Check.j0]
  by_cases c3 : b < -1000000000000000000
  · simp [c1, c2, c3, interval_Check.j0]
  by_cases c4 : b > 1000000000000000000
  · simp [c1, c2, c3, c4, interval_Check.j0]
  by_cases c5 : b < a
  · simp [c1, c2, c3, c4, c5, interval_Check.j0]
  · simp [c1, c2, c3, c4, c5, interval_Check.j0]
theorem spanErr_at (k : Nat) (a b : Int) : ephemerisref2_SpanErr.f (k + 1) a b = some (sp a b) := by
  unfold ephemerisref2_SpanErr.f sp
  by_cases c1 : a < -1000000000000000000
  · simp [c1, ephemerisref2_SpanErr.j0]
  by_cases c2 : a > 1000000000000000000
  · simp [c1, c2, ephemerisref2_SpanErr.j0]
  by_cases c3 : b < -1000000000000000000
  · simp [c1, c2, c3, ephemerisref2_SpanErr.j0]
  by_cases c4 : b > 1000000000000000000
  · simp [c1, c2, c3, c4, ephemerisref2_SpanErr.j0]
  by_cases c5 : b < a
  · simp [c1, c2, c3, c4, c5, ephemerisref2_SpanErr.j0]
  · simp [c1, c2, c3, c4, c5, ephemerisref2_SpanErr.j0]
/-- What bounds of times are found to be. -/
def tm (a b : Int) : Int := if a < -100000000000000000 then 3 else if b > 100000000000000000 then 3 else sp a b
theorem times_at (k : Nat) (a b : Int) : oscill_Times.f (k + 1) a b = some (tm a b) := by
  unfold oscill_Times.f tm
  rw [interval_Check_at]
  split
  · rfl
  · split <;> rfl
theorem timesErr_at (k : Nat) (a b : Int) : ephemerisref2_TimesErr.f (k + 1) a b = some (tm a b) := by
  unfold ephemerisref2_TimesErr.f tm
  rw [spanErr_at]
  split
  · rfl
  · split <;> rfl
/-- A quotient rounded down, by a positive number. -/
theorem floor_pos {a b : Int} (ha : -9223372036854775808 ≤ a ∧ a ≤ 9223372036854775807) (hb : 0 < b) : interval_Floor.f a b = some (a / b) := by
  have hd := Int.tdiv_eq_ediv (a := a) (b := b)
  have hm := Int.mul_tdiv_add_tmod a b
  have hs : b.sign = 1 := Int.sign_eq_one_of_pos hb
  have h1 : b * (a / b) ≤ a := Int.mul_ediv_self_le (by omega)
  have h2 : a < b * (a / b) + b := Int.lt_mul_ediv_self_add hb
  have h3 : -9223372036854775808 ≤ a / b := by
    rcases ilt_or (a / b) (-9223372036854775808) with h | h
    · have : b * (a / b) ≤ 1 * (a / b) := Int.mul_le_mul_of_nonpos_right (by omega) (by omega)
      have h5 : b * (a / b) + b ≤ a / b + 1 := by
        have : b * (a / b + 1) ≤ 1 * (a / b + 1) := Int.mul_le_mul_of_nonpos_right (by omega) (by omega)
        rw [Int.mul_add, Int.mul_one] at this
        omega
      omega
    · exact h
  have h4 : a / b ≤ 9223372036854775807 := by
    rcases ilt_or 9223372036854775807 (a / b) with h | h
    · have : 1 * (a / b) ≤ b * (a / b) := Int.mul_le_mul_of_nonneg_right (by omega) (by omega)
      omega
    · exact h
  unfold interval_Floor.f
  rw [if_neg (by omega)]
  have hdec : decide (b < 0) = false := decide_eq_false (by omega)
  by_cases c : a.tmod b = 0
  · rw [if_pos c]
    have : b ∣ a := Int.dvd_of_tmod_eq_zero c
    rw [if_pos (Or.inr this)] at hd
    rw [hd, Int.add_zero, w64 h3 h4]
  · rw [if_neg c, hdec]
    have hnd : ¬ b ∣ a := fun h => c (Int.tmod_eq_zero_of_dvd h)
    by_cases c2 : a < 0
    · rw [if_pos (by simp [c2])]
      rw [if_neg (by rintro (h | h) <;> first | omega | exact hnd h), hs] at hd
      rw [hd, w64 (x := a / b + 1) (by omega) ?_, w64 (by omega) (by omega)]
      · congr 1; omega
      · rcases ilt_or 0 (a / b + 1) with h | h
        · have : b * 0 ≤ b * (a / b) := Int.mul_le_mul_of_nonneg_left (by omega) (by omega)
          omega
        · omega
    · rw [if_neg (by simp [c2])]
      rw [if_pos (Or.inl (by omega))] at hd
      rw [hd, Int.add_zero, w64 h3 h4]
theorem times_ev (a b : Int) : Ev (fun k => oscill_Times.f k a b) (tm a b) := ev_some 1 fun k => times_at k a b
/-- a quotient rounded up, as the document's answer tells it -/
theorem ceil_eq {n D : Int} (hD : 0 < D) : -(-n / D) = if n / D * D < n then n / D + 1 else n / D := by
  have h1 := Int.emod_add_mul_ediv n D
  have h2 := Int.emod_nonneg n (show D ≠ 0 by omega)
  have h3 := Int.emod_lt_of_pos n hD
  have h4 : D * (n / D) = n / D * D := Int.mul_comm _ _
  generalize n / D = q at *
  generalize n % D = r at *
  by_cases c : r = 0
  · rw [if_neg (by omega)]
    have : -n / D = -q := by
      rw [show -n = -q * D by rw [Int.neg_mul]; omega]
      exact Int.mul_ediv_cancel _ (by omega)
    omega
  · rw [if_pos (by omega)]
    have : -n / D = -q - 1 := by
      have h5 : -n = (D - r) + D * (-q - 1) := by rw [Int.mul_sub, Int.mul_neg, Int.mul_one]; omega
      rw [h5, Int.add_mul_ediv_left _ _ (by omega), Int.ediv_eq_zero_of_lt (by omega) (by omega), Int.zero_add]
    omega
/-- what passes while a clock counts -/
def elo (d t : Int) : Int := t * 1000000 / (1000000 + d)
def ehi (d t : Int) : Int := -(-(t * 1000000) / (1000000 - d))
theorem elapsed_ev {d t : Int} (d0 : 0 ≤ d) (d1 : d ≤ 100000) (t0 : 0 ≤ t) (t1 : t ≤ 1000000000000) : Ev (fun k => oscill_Elapsed.f k d t) (elo d t, ehi d t, 0) :=
  ev_some 2 fun k => by
    unfold oscill_Elapsed.f
    rw [if_neg (by omega), oscill_Elapsed.j0, if_neg (by simp; omega), if_neg (by omega), oscill_Elapsed.j1, if_neg (by simp; omega), w64 (x := t * 1000000) (by omega) (by omega), w64 (x := 1000000 + d) (by omega) (by omega), w64 (x := 1000000 - d) (by omega) (by omega), floor_pos (by omega) (by omega), Option.bind_some]
    unfold interval_Ceil.f
    rw [w64 (x := -(t * 1000000)) (by omega) (by omega), floor_pos (by omega) (by omega), Option.bind_some]
    have h1 := Int.emod_add_mul_ediv (-(t * 1000000)) (1000000 - d)
    have h2 : -(t * 1000000) / (1000000 - d) ≤ 0 := by
      have := Int.ediv_le_ediv (show (0 : Int) < 1000000 - d by omega) (show -(t * 1000000) ≤ 0 by omega)
      simpa using this
    have h3 : -(t * 1000000) ≤ -(t * 1000000) / (1000000 - d) := by
      rw [Int.le_ediv_iff_mul_le (by omega)]
      have := Int.mul_le_mul_of_nonpos_left (show -(t * 1000000) ≤ 0 by omega) (show (1 : Int) ≤ 1000000 - d by omega)
      omega
    rw [w64 (by omega) (by omega), Option.bind_some]
    rfl
theorem relapsed_ev {d t : Int} (d0 : 0 ≤ d) (d1 : d ≤ 100000) (t0 : 0 ≤ t) (t1 : t ≤ 1000000000000) : Ev (fun k => ephemerisref2_Elapsed.f k d t) (elo d t, ehi d t) :=
  ev_some 0 fun k => by
    unfold ephemerisref2_Elapsed.f elo ehi
    simp only [iw, Sx.oif_eq, decide_eq_true_eq]
    have hb : 0 ≤ t * 1000000 / (1000000 - d) ∧ t * 1000000 / (1000000 - d) ≤ t * 1000000 ∧ t * 1000000 / (1000000 - d) * (1000000 - d) ≤ t * 1000000 := by
      refine ⟨Int.ediv_nonneg (by omega) (by omega), ?_, ?_⟩
      · exact Int.ediv_le_self _ (by omega)
      · exact Int.ediv_mul_le _ (by omega)
    have hc : 0 ≤ t * 1000000 / (1000000 - d) * (1000000 - d) := Int.mul_nonneg hb.1 (by omega)
    have ha : 0 ≤ t * 1000000 / (1000000 + d) ∧ t * 1000000 / (1000000 + d) ≤ t * 1000000 := ⟨Int.ediv_nonneg (by omega) (by omega), Int.ediv_le_self _ (by omega)⟩
    obtain ⟨hb1, hb2, hb3⟩ := hb
    rw [w64 (x := 1000000 + d) (by omega) (by omega), w64 (x := 1000000 - d) (by omega) (by omega), w64 (x := t * 1000000) (by omega) (by omega), if_neg (by omega), if_neg (by omega), Int.tdiv_eq_ediv_of_nonneg (by omega), Int.tdiv_eq_ediv_of_nonneg (by omega), w64 (x := t * 1000000 / (1000000 - d)) (by omega) (by omega), w64 (x := t * 1000000 / (1000000 - d) * (1000000 - d)) (by omega) (by omega), w64 (x := t * 1000000 / (1000000 + d)) (by omega) (by omega), w64 (x := t * 1000000 / (1000000 - d) + 1) (by omega) (by omega), ceil_eq (n := t * 1000000) (D := 1000000 - d) (by omega)]
    split <;> rfl
theorem works : Ev (fun k => ephemerislaw2_sourceWorks.f k) true := Ev.of ephemerislaw2_sourceWorks.mono (k := 20) (by decide +kernel)
theorem terr_ev (a b : Int) : Ev (fun k => ephemerisref2_TimesErr.f k a b) (tm a b) := ev_some 1 fun k => timesErr_at k a b
/-- what a reading is found to be -/
def rd (r : S56) : Int := if r.f0 < 0 then 3 else if r.f0 > 1000000000000 then 3 else tm r.f1.f0 r.f1.f1
theorem rd_zero {r : S56} (h : rd r = 0) : 0 ≤ r.f0 ∧ r.f0 ≤ 1000000000000 ∧ tm r.f1.f0 r.f1.f1 = 0 := by
  unfold rd at h
  split at h
  · cases h
  · split at h
    · cases h
    · exact ⟨by omega, by omega, h⟩
theorem check_ev (r : S56) : Ev (fun k => source_Check.f k r.f0 r.f1.f0 r.f1.f1) (rd r) := by
  unfold source_Check.f rd
  by_cases c1 : r.f0 < 0
  · simp only [if_pos c1]; exact ev_some 0 fun k => rfl
  by_cases c2 : r.f0 > 1000000000000
  · simp only [if_neg c1, if_pos c2]; exact ev_some 0 fun k => rfl
  · simp only [if_neg c1, if_neg c2]; exact ev_bind (times_ev _ _) (ev_some 0 fun k => rfl)
theorem rerr_ev (r : S56) : Ev (fun k => ephemerisref2_ReadingErr.f k r.f0 r.f1.f0 r.f1.f1) (rd r) := by
  unfold ephemerisref2_ReadingErr.f rd
  by_cases c1 : r.f0 < 0
  · simp only [if_pos c1]; exact ev_some 0 fun k => rfl
  by_cases c2 : r.f0 > 1000000000000
  · simp only [if_neg c1, if_pos c2]; exact ev_some 0 fun k => rfl
  · simp only [if_neg c1, if_neg c2]; exact ev_bind (terr_ev _ _) (ev_some 0 fun k => rfl)
/-- a reading at a later tick -/
def mv (d : Int) (r : S56) (t : Int) : Int × Int × Int :=
  if rd r = 0 then (if d < 0 ∨ d > 100000 then (0, 0, 1) else if t < 0 ∨ t > 1000000000000 then (0, 0, 3) else if t < r.f0 then (0, 0, 9) else (wrap64 (r.f1.f0 + elo d (t - r.f0)), wrap64 (r.f1.f1 + ehi d (t - r.f0)), 0)) else (0, 0, rd r)
theorem rmoved_ev (d : Int) (r : S56) (t : Int) : Ev (fun k => ephemerisref2_Moved.f k d r.f0 r.f1.f0 r.f1.f1 t) (mv d r t) := by
  unfold ephemerisref2_Moved.f mv
  refine ev_bind (rerr_ev r) ?_
  by_cases c0 : rd r = 0
  · obtain ⟨r0, r1, _⟩ := rd_zero c0
    simp only [if_pos c0]
    by_cases c1 : d < 0 ∨ d > 100000
    · rw [if_pos c1]
      refine ev_some 1 fun k => ?_
      by_cases c : d < 0
      · rw [if_pos c, ephemerisref2_Moved.j0, if_pos rfl]
      · rw [if_neg c, ephemerisref2_Moved.j0, if_pos (by simp; omega)]
    rw [if_neg c1]
    by_cases c2 : t < 0 ∨ t > 1000000000000
    · rw [if_pos c2]
      refine ev_some 2 fun k => ?_
      rw [if_neg (by omega), ephemerisref2_Moved.j0, if_neg (by simp; omega)]
      by_cases c : t < 0
      · rw [if_pos c, ephemerisref2_Moved.j1, if_pos rfl]
      · rw [if_neg c, ephemerisref2_Moved.j1, if_pos (by simp; omega)]
    rw [if_neg c2]
    by_cases c3 : t < r.f0
    · rw [if_pos c3]
      refine ev_some 2 fun k => ?_
      rw [if_neg (by omega), ephemerisref2_Moved.j0, if_neg (by simp; omega), if_neg (by omega), ephemerisref2_Moved.j1, if_neg (by simp; omega), if_pos c3]
    rw [if_neg c3]
    refine ev_step 2 (fun k => by rw [if_neg (by omega), ephemerisref2_Moved.j0, if_neg (by simp; omega), if_neg (by omega), ephemerisref2_Moved.j1, if_neg (by simp; omega), if_neg c3, w64 (x := t - r.f0) (by omega) (by omega)]) ?_
    exact ev_bind (relapsed_ev (by omega) (by omega) (by omega) (by omega)) (ev_some 0 fun k => rfl)
  · simp only [if_neg c0]
    exact ev_some 0 fun k => rfl
theorem moved_ev (d : Int) (r : S56) (t : Int) : Ev (fun k => source_Moved.f k d r.f0 r.f1.f0 r.f1.f1 t) (mv d r t) := by
  unfold source_Moved.f mv
  refine ob_ev (check_ev r) ?_
  by_cases c0 : rd r = 0
  · obtain ⟨r0, r1, r2⟩ := rd_zero c0
    rw [if_pos c0]
    refine Ev.congr (fun k => oif_neg (bne0 c0)) ?_
    by_cases c1 : d < 0 ∨ d > 100000
    · rw [if_pos c1]
      refine ev_some 0 fun k => ?_
      simp only [Sx.oif_eq, decide_eq_true_eq]
      by_cases c : d < 0
      · rw [if_pos c]
      · rw [if_neg c, if_pos (by omega)]
    rw [if_neg c1]
    refine Ev.congr (fun k => (oif_neg (by simp; omega)).trans ((oif_neg (by simp; omega)).trans ((oif_neg (by simp; omega)).trans (oif_neg (by simp; omega))))) ?_
    refine ob_ev (times_ev _ _) ?_
    refine Ev.congr (fun k => oif_neg (bne0 r2)) ?_
    by_cases c2 : t < 0 ∨ t > 1000000000000
    · rw [if_pos c2]
      refine ev_some 0 fun k => ?_
      simp only [Sx.oif_eq, decide_eq_true_eq]
      by_cases c : t < 0
      · rw [if_pos c]
      · rw [if_neg c, if_pos (by omega)]
    rw [if_neg c2]
    refine Ev.congr (fun k => (oif_neg (by simp; omega)).trans (oif_neg (by simp; omega))) ?_
    by_cases c3 : t < r.f0
    · rw [if_pos c3]
      exact ev_some 0 fun k => oif_pos (by simp; omega)
    rw [if_neg c3]
    refine Ev.congr (fun k => (oif_neg (by simp; omega)).trans (by rw [iw, w64 (x := t - r.f0) (by omega) (by omega)])) ?_
    exact ob_ev (elapsed_ev (by omega) (by omega) (by omega) (by omega)) (ev_some 0 fun k => by rw [iw, iw])
  · rw [if_neg c0]
    exact ev_some 0 fun k => oif_pos (bne1 c0)
/-- All -/
def alv (d t : Int) : List S36 → List S56 → List S36 × Int
  | acc, [] => (acc, 0)
  | acc, r :: l => if (mv d r t).2.2 = 0 then alv d t (acc ++ [⟨(mv d r t).1, (mv d r t).2.1⟩]) l else ([], (mv d r t).2.2)
theorem all_loop (d t : Int) (l : List S56) (hl : l.length ≤ 40) : ∀ (s : List S56) (i : Int) (acc : List S36), 0 ≤ i → l.drop i.toNat = s → acc.length ≤ 40 - s.length → s.length ≤ 40 → Ev (fun k => source_All.l0 k d t acc l (l.length : Int) i) (alv d t acc s) := by
  intro s
  induction s with
  | nil =>
    intro i acc h0 hd ha hs
    have hle := drop_nil h0 hd
    exact ev_some 1 fun k => by rw [source_All.l0, if_neg (by omega)]; rfl
  | cons r s ih =>
    intro i acc h0 hd ha hs
    obtain ⟨hlt, hr, ht⟩ := drop_cons z56 h0 hd
    have hr' : rd_T56 l i = r := hr
    have a9 : wrap64 (i + 1) = i + 1 := w64 (by omega) (by omega)
    simp only [List.length_cons] at ha hs
    refine ev_step 1 (fun k => by rw [source_All.l0, if_pos hlt, if_pos h0, if_pos hlt, hr', a9]) ?_
    refine ev_bind (moved_ev d r t) ?_
    unfold alv
    by_cases c : (mv d r t).2.2 = 0
    · simp only [if_pos c, if_pos (show acc.length < 8796093022208 by omega)]
      exact ih (i + 1) _ (by omega) ht (by simp; omega) (by omega)
    · simp only [if_neg c]
      exact ev_some 0 fun k => rfl
theorem all_ev (d t : Int) (l : List S56) : Ev (fun k => source_All.f k d l t) (if l.length > 40 then ([], 2) else alv d t [] l) := by
  unfold source_All.f
  by_cases c : l.length > 40
  · simp only [if_pos c, if_pos (show (l.length : Int) > 40 by omega)]
    exact ev_some 0 fun k => rfl
  · simp only [if_neg c, if_neg (show ¬ (l.length : Int) > 40 by omega)]
    exact all_loop d t l (by omega) l 0 [] (by omega) rfl (by simp) (by omega)
/-- the first error -/
def fe (d t : Int) : List S56 → Int
  | [] => 0
  | r :: l => if (mv d r t).2.2 = 0 then fe d t l else (mv d r t).2.2
theorem alv_eq (d t : Int) : ∀ (l : List S56) (acc : List S36), alv d t acc l = if fe d t l = 0 then (acc ++ l.map (fun r => (⟨(mv d r t).1, (mv d r t).2.1⟩ : S36)), 0) else ([], fe d t l)
  | [], acc => by simp [alv, fe]
  | r :: l, acc => by
    unfold alv fe
    by_cases c : (mv d r t).2.2 = 0
    · simp only [if_pos c]
      rw [alv_eq d t l]
      simp
    · simp only [if_neg c]
theorem fe_zero {d t : Int} : ∀ {l : List S56}, fe d t l = 0 → ∀ r ∈ l, (mv d r t).2.2 = 0
  | [], _, r, hr => by simp at hr
  | s :: l, h, r, hr => by
    unfold fe at h
    by_cases c : (mv d s t).2.2 = 0
    · rw [if_pos c] at h
      rcases List.mem_cons.1 hr with e | e
      · rw [e]; exact c
      · exact fe_zero h r e
    · rw [if_neg c] at h; exact absurd h c
/-- a round of the law -/
theorem round_ev (d : Int) (l : List S56) (t : Int) (all : List S36) (e x : Int) (r : S56) (i : Int) (h0 : 0 ≤ i) (hlt : i < (l.length : Int)) (hr : rd_T56 l i = r)
    (H : Ev (fun k => ephemerislaw2_SourceMoves.j2 k d l t all e x i (mv d r t).2.2 l (l.length : Int) i false (mv d r t).1 (mv d r t).2.1) true) :
    Ev (fun k => ephemerislaw2_SourceMoves.l0 k d l t all e x l (l.length : Int) i) true := by
  refine ev_step 1 (fun k => by rw [ephemerislaw2_SourceMoves.l0, if_pos hlt, if_pos h0, if_pos hlt, hr]) ?_
  refine ev_bind (moved_ev d r t) (ev_bind (rmoved_ev d r t) ?_)
  simp only [beq_self_eq_true, Bool.not_true, Bool.or_self, Bool.false_eq_true, if_false, if_true]
  refine ev_bind (check_ev r) (ev_bind (rerr_ev r) ?_)
  simp only [bne_self_eq_false]
  exact H
/-- the law's loop where All fails -/
theorem bad_loop (d : Int) (l : List S56) (t : Int) (hl : (l.length : Int) ≤ 9223372036854775807) (e : Int) (he : e ≠ 0) : ∀ (s : List S56) (i x : Int), 0 ≤ i → l.drop i.toNat = s → (x = e ∨ x = 0 ∧ fe d t s = e) →
    Ev (fun k => ephemerislaw2_SourceMoves.l0 k d l t [] e x l (l.length : Int) i) true := by
  intro s
  induction s with
  | nil =>
    intro i x h0 hd hx
    have hle := drop_nil h0 hd
    have hx : x = e := by
      rcases hx with hx | ⟨_, hx⟩
      · exact hx
      · exact absurd hx.symm he
    subst hx
    exact ev_some 1 fun k => by rw [ephemerislaw2_SourceMoves.l0, if_neg (by omega), if_neg he, if_pos rfl]; rfl
  | cons r s ih =>
    intro i x h0 hd hx
    obtain ⟨hlt, hr, ht⟩ := drop_cons z56 h0 hd
    have a9 : wrap64 (i + 1) = i + 1 := w64 (by omega) (by omega)
    refine round_ev d l t [] e x r i h0 hlt hr ?_
    by_cases c : x = 0
    · refine ev_step 1 (fun k => by rw [ephemerislaw2_SourceMoves.j2, if_neg (by simp), if_pos c, if_neg he, a9]) ?_
      refine ih (i + 1) _ (by omega) ht ?_
      rcases hx with hx | ⟨_, hx⟩
      · exact absurd (hx.symm.trans c) he
      · unfold fe at hx
        by_cases c2 : (mv d r t).2.2 = 0
        · rw [if_pos c2] at hx; exact .inr ⟨c2, hx⟩
        · rw [if_neg c2] at hx; exact .inl hx
    · refine ev_step 1 (fun k => by rw [ephemerislaw2_SourceMoves.j2, if_neg (by simp), if_neg c, if_neg he, a9]) ?_
      refine ih (i + 1) _ (by omega) ht ?_
      rcases hx with hx | ⟨hx, _⟩
      · exact .inl hx
      · exact absurd hx c
/-- the law's loop where All goes on -/
theorem good_loop (d : Int) (l : List S56) (t : Int) (hl : (l.length : Int) ≤ 9223372036854775807) (hg : ∀ r ∈ l, (mv d r t).2.2 = 0) : ∀ (s : List S56) (i : Int), 0 ≤ i → l.drop i.toNat = s →
    Ev (fun k => ephemerislaw2_SourceMoves.l0 k d l t (l.map (fun r => (⟨(mv d r t).1, (mv d r t).2.1⟩ : S36))) 0 0 l (l.length : Int) i) true := by
  intro s
  induction s with
  | nil =>
    intro i h0 hd
    have hle := drop_nil h0 hd
    exact ev_some 1 fun k => by rw [ephemerislaw2_SourceMoves.l0, if_neg (by omega), if_pos rfl, if_pos rfl]; simp
  | cons r s ih =>
    intro i h0 hd
    obtain ⟨hlt, hr, ht⟩ := drop_cons z56 h0 hd
    have hr' : rd_T56 l i = r := hr
    have a9 : wrap64 (i + 1) = i + 1 := w64 (by omega) (by omega)
    have hz := hg r (drop_mem hd)
    have hget : rd_T36 (l.map (fun r => (⟨(mv d r t).1, (mv d r t).2.1⟩ : S36))) i = ⟨(mv d r t).1, (mv d r t).2.1⟩ := by
      unfold rd_T36
      have hi : i.toNat < l.length := by omega
      simp only [List.getD, List.getElem?_map, List.getElem?_eq_getElem hi, Option.map_some, Option.getD_some]
      have : l[i.toNat] = r := by
        have h3 := hr
        simp only [List.getD, List.getElem?_eq_getElem hi, Option.getD_some] at h3
        exact h3
      rw [this]
    refine round_ev d l t _ 0 0 r i h0 hlt hr ?_
    rw [hz]
    refine ev_step 1 (fun k => by rw [ephemerislaw2_SourceMoves.j2, if_neg (by simp), if_pos rfl, if_pos rfl, if_neg (by simp; omega), if_pos h0, if_pos (by simpa using hlt), hget, if_neg (by simp), a9]) ?_
    exact ih (i + 1) (by omega) ht
theorem SourceMoves : PureX := by
  intro d l t hd hl ht
  refine ev_k (g := fun k => ephemerislaw2_SourceMoves.f k d l t) ?_
  have hlen : (l.length : Int) ≤ 9223372036854775807 := by have := hl.1; omega
  unfold ephemerislaw2_SourceMoves.f
  refine ev_bind works ?_
  refine Ev.congr (fun k => if_pos rfl) ?_
  refine ev_bind (all_ev d t l) ?_
  by_cases c : l.length > 40
  · simp only [if_pos c, if_pos (show (l.length : Int) > 40 by omega)]
    refine ev_step 1 (fun k => by rw [ephemerislaw2_SourceMoves.j0]) ?_
    exact bad_loop d l t hlen 2 (by decide) l 0 2 (by omega) rfl (.inl rfl)
  · simp only [if_neg c, if_neg (show ¬ (l.length : Int) > 40 by omega)]
    refine ev_step 1 (fun k => by rw [ephemerislaw2_SourceMoves.j0]) ?_
    rw [alv_eq]
    by_cases c2 : fe d t l = 0
    · simp only [if_pos c2, List.nil_append]
      exact good_loop d l t hlen (fe_zero c2) l 0 (by omega) rfl
    · simp only [if_neg c2]
      exact bad_loop d l t hlen _ c2 l 0 0 (by omega) rfl (.inr ⟨rfl, rfl⟩)
end Go.Proofs.Ytcmgfhfnfkelfaa.Pure
