/- LeapCounts: Check, Sum and Count of the program answer as the document says, for every table of leaps and every instant. -/
import Derived.Test.YtcmgfhfnfkelfaaOpnLeapCounts
import Derived.Test.YtcmgfhfnfkelfaaBase
namespace Go.Proofs.Ytcmgfhfnfkelfaa.Pure
open Go.RowKit Go.Proofs.YtcmgfhfnfkelfaaW.PrintWords Go.Proofs.YtcmgfhfnfkelfaaW.PrintLast Go.Proofs.Ytcmgfhfnfkelfaa.Opn Go.Proofs.Ytcmgfhfnfkelfaa.PLeapCounts Go.Proofs.Ytcmgfhfnfkelfaa.Base
set_option linter.unusedVariables false
set_option linter.unusedSimpArgs false

theorem ilt_or (a b : Int) : a < b ∨ b ≤ a := by omega
/-- A quotient rounded down, by a positive number. -/
theorem floor_pos {a b : Int} (ha : -9223372036854775808 ≤ a ∧ a ≤ 9223372036854775807) (hb : 0 < b) : interval_Floor.f a b = some (a / b) := by
  have hd := Int.tdiv_eq_ediv (a := a) (b := b)
  have hm := Int.mul_tdiv_add_tmod a b
  have hs : b.sign = 1 := Int.sign_eq_one_of_pos hb
  have h1 : b * (a / b) ≤ a := Int.mul_ediv_self_le (by omega)
  have h2 : a < b * (a / b) + b := Int.lt_mul_ediv_self_add hb
  have h3 : -9223372036854775808 ≤ a / b := by
    rcases ilt_or (a / b) (-9223372036854775808) with h | h
    · have : b * (a / b) ≤ 1 * (a / b) := Int.mul_le_mul_of_nonpos_right (by omega) (by omega)
      have h5 : b * (a / b) + b ≤ a / b + 1 := by
        have : b * (a / b + 1) ≤ 1 * (a / b + 1) := Int.mul_le_mul_of_nonpos_right (by omega) (by omega)
        rw [Int.mul_add, Int.mul_one] at this
        omega
      omega
    · exact h
  have h4 : a / b ≤ 9223372036854775807 := by
    rcases ilt_or 9223372036854775807 (a / b) with h | h
    · have : 1 * (a / b) ≤ b * (a / b) := Int.mul_le_mul_of_nonneg_right (by omega) (by omega)
      omega
    · exact h
  unfold interval_Floor.f
  rw [if_neg (by omega)]
  have hdec : decide (b < 0) = false := decide_eq_false (by omega)
  by_cases c : a.tmod b = 0
  · rw [if_pos c]
    have : b ∣ a := Int.dvd_of_tmod_eq_zero c
    rw [if_pos (Or.inr this)] at hd
    rw [hd, Int.add_zero, w64 h3 h4]
  · rw [if_neg c, hdec]
    have hnd : ¬ b ∣ a := fun h => c (Int.tmod_eq_zero_of_dvd h)
    by_cases c2 : a < 0
    · rw [if_pos (by simp [c2])]
      rw [if_neg (by rintro (h | h) <;> first | omega | exact hnd h), hs] at hd
      rw [hd, w64 (x := a / b + 1) (by omega) ?_, w64 (by omega) (by omega)]
      · congr 1; omega
      · rcases ilt_or 0 (a / b + 1) with h | h
        · have : b * 0 ≤ b * (a / b) := Int.mul_le_mul_of_nonneg_left (by omega) (by omega)
          omega
        · omega
    · rw [if_neg (by simp [c2])]
      rw [if_pos (Or.inl (by omega))] at hd
      rw [hd, Int.add_zero, w64 h3 h4]
/-- A remainder from 0 on. -/
theorem mod_pos {a b : Int} (hb : 0 < b) (hb2 : b ≤ 9223372036854775807) : ephemerisref2_Mod.f a b = some (a % b) := by
  unfold ephemerisref2_Mod.f
  rw [if_neg (by omega)]
  have h1 : a.tmod b = a % b - (if 0 ≤ a ∨ b ∣ a then 0 else b.natAbs) := by
    rw [Int.tmod_eq_emod]
  have h2 := Int.emod_nonneg a (show b ≠ 0 by omega)
  have h3 := Int.emod_lt_of_pos a hb
  by_cases c : 0 ≤ a ∨ b ∣ a
  · rw [if_pos c] at h1
    rw [h1, if_neg (by omega)]; simp
  · rw [if_neg c] at h1
    rw [h1, if_pos (by omega), w64 (by omega) (by omega)]
    congr 1; omega
/-- What a table of leaps is found to be, from a day on. -/
def lerr (last : Int) : List S31 → Int
  | [] => 0
  | s :: t => if s.f0 < -3999998 ∨ s.f0 > 3999998 then 3 else if s.f1 ≠ 1 ∧ s.f1 ≠ -1 then 1 else if s.f0 - last < 2 then 9 else lerr s.f0 t

theorem leapCheck_loop (l : List S31) (hl : l.length ≤ 60) : ∀ (t : List S31) (i last : Int), 0 ≤ i → l.drop i.toNat = t →
    (i = 0 ∧ last = -5000000 ∨ 0 < i ∧ last = (rd_T31 l (i - 1)).f0 ∧ -3999998 ≤ last ∧ last ≤ 3999998) →
    Ev (fun k => leap_Check.l0 k l l (l.length : Int) i) (lerr last t) := by
  intro t
  induction t with
  | nil =>
    intro i last h0 hd hi
    have := drop_nil h0 hd
    refine ev_some 1 fun k => ?_
    simp only [leap_Check.l0]
    rw [if_neg (by omega)]; rfl
  | cons s t ih =>
    intro i last h0 hd hi
    obtain ⟨hlt, hs, ht⟩ := drop_cons z31 h0 hd
    have hs' : rd_T31 l i = s := hs
    unfold lerr
    by_cases c1 : s.f0 < -3999998
    · rw [if_pos (Or.inl c1)]
      refine ev_some 2 fun k => ?_
      simp only [leap_Check.l0, leap_Check.j1]
      rw [if_pos hlt, if_pos h0, if_pos hlt, hs', if_pos c1]; rfl
    by_cases c2 : s.f0 > 3999998
    · rw [if_pos (Or.inr c2)]
      refine ev_some 2 fun k => ?_
      simp only [leap_Check.l0, leap_Check.j1]
      rw [if_pos hlt, if_pos h0, if_pos hlt, hs', if_neg c1]; simp [c2]
    rw [if_neg (by omega)]
    by_cases c3 : s.f1 = 1 ∨ s.f1 = -1
    rotate_left
    · rw [if_pos (by omega)]
      refine ev_some 3 fun k => ?_
      simp only [leap_Check.l0, leap_Check.j1, leap_Check.j2]
      rw [if_pos hlt, if_pos h0, if_pos hlt, hs', if_neg c1]
      have e1 : s.f1 ≠ 1 := by omega
      have e2 : s.f1 ≠ -1 := by omega
      simp [c2, e1, e2]
    rw [if_neg (by omega)]
    have hj2 : ∀ k, leap_Check.l0 (k + 3) l l (l.length : Int) i = (if i > 0 then (if s.f0 < last + 2 then some 9 else leap_Check.l0 k l l (l.length : Int) (i + 1)) else leap_Check.l0 k l l (l.length : Int) (i + 1)) := by
      intro k
      simp only [leap_Check.l0, leap_Check.j1, leap_Check.j2]
      rw [if_pos hlt, if_pos h0, if_pos hlt, hs', if_neg c1]
      have hw : wrap64 (i + 1) = i + 1 := w64 (by omega) (by omega)
      have hw2 : wrap64 (i - 1) = i - 1 := w64 (by omega) (by omega)
      rw [hw, hw2]
      by_cases hi0 : i > 0
      · rcases hi with ⟨hi, _⟩ | ⟨_, hl1, hl2, hl3⟩
        · omega
        have hw3 : wrap64 (last + 2) = last + 2 := w64 (by omega) (by omega)
        have hi1 : 0 ≤ i - 1 := by omega
        have hi2 : i - 1 < (l.length : Int) := by omega
        rw [show decide (s.f0 > 3999998) = false from decide_eq_false c2, if_neg Bool.false_ne_true]
        rcases c3 with c3 | c3
        · rw [if_pos c3, if_neg Bool.false_ne_true, if_pos hi0, if_pos hi1, if_pos hi2, ← hl1, hw3, if_pos hi0]
        · rw [if_neg (by omega), show (s.f1 != -1) = false by simp [c3], if_neg Bool.false_ne_true, if_pos hi0, if_pos hi1, if_pos hi2, ← hl1, hw3, if_pos hi0]
      · rw [show decide (s.f0 > 3999998) = false from decide_eq_false c2, if_neg Bool.false_ne_true]
        rcases c3 with c3 | c3
        · rw [if_pos c3, if_neg Bool.false_ne_true, if_neg hi0, if_neg hi0]
        · rw [if_neg (by omega), show (s.f1 != -1) = false by simp [c3], if_neg Bool.false_ne_true, if_neg hi0, if_neg hi0]
    by_cases c4 : s.f0 - last < 2
    · rw [if_pos c4]
      refine ev_some 3 fun k => ?_
      rw [hj2]
      rcases hi with ⟨_, hi⟩ | ⟨hi, _, _, _⟩
      · omega
      rw [if_pos hi, if_pos (by omega)]
    · rw [if_neg c4]
      refine ev_step 3 (f := fun k => leap_Check.l0 k l l (l.length : Int) (i + 1)) ?_ (ih (i + 1) s.f0 (by omega) ht (Or.inr ⟨by omega, ?_, by omega, by omega⟩))
      · intro k
        rw [hj2]
        split
        · rw [if_neg (by omega)]
        · rfl
      · rw [show i + 1 - 1 = i by omega, hs']

theorem leapsErr_loop (l : List S31) (hl : l.length ≤ 60) : ∀ (t : List S31) (i last : Int), 0 ≤ i → l.drop i.toNat = t → -5000000 ≤ last → last ≤ 3999998 →
    Ev (fun k => ephemerisref2_LeapsErr.l0 k last l (l.length : Int) i) (lerr last t) := by
  intro t
  induction t with
  | nil =>
    intro i last h0 hd hi hi'
    have := drop_nil h0 hd
    refine ev_some 1 fun k => ?_
    simp only [ephemerisref2_LeapsErr.l0]
    rw [if_neg (by omega)]; rfl
  | cons s t ih =>
    intro i last h0 hd hi hi'
    obtain ⟨hlt, hs, ht⟩ := drop_cons z31 h0 hd
    have hs' : rd_T31 l i = s := hs
    unfold lerr
    by_cases c1 : s.f0 < -3999998
    · rw [if_pos (Or.inl c1)]
      refine ev_some 2 fun k => ?_
      simp only [ephemerisref2_LeapsErr.l0, ephemerisref2_LeapsErr.j1]
      rw [if_pos hlt, if_pos h0, if_pos hlt, hs', if_pos c1]; rfl
    by_cases c2 : s.f0 > 3999998
    · rw [if_pos (Or.inr c2)]
      refine ev_some 2 fun k => ?_
      simp only [ephemerisref2_LeapsErr.l0, ephemerisref2_LeapsErr.j1]
      rw [if_pos hlt, if_pos h0, if_pos hlt, hs', if_neg c1]; simp [c2]
    rw [if_neg (by omega)]
    by_cases c3 : s.f1 = 1 ∨ s.f1 = -1
    rotate_left
    · rw [if_pos (by omega)]
      refine ev_some 3 fun k => ?_
      simp only [ephemerisref2_LeapsErr.l0, ephemerisref2_LeapsErr.j1, ephemerisref2_LeapsErr.j2]
      rw [if_pos hlt, if_pos h0, if_pos hlt, hs', if_neg c1]
      have e1 : s.f1 ≠ 1 := by omega
      have e2 : s.f1 ≠ -1 := by omega
      simp [c2, e1, e2]
    rw [if_neg (by omega)]
    have hw : wrap64 (i + 1) = i + 1 := w64 (by omega) (by omega)
    have hw2 : wrap64 (s.f0 - last) = s.f0 - last := w64 (by omega) (by omega)
    by_cases c4 : s.f0 - last < 2
    · rw [if_pos c4]
      refine ev_some 3 fun k => ?_
      simp only [ephemerisref2_LeapsErr.l0, ephemerisref2_LeapsErr.j1, ephemerisref2_LeapsErr.j2]
      rw [if_pos hlt, if_pos h0, if_pos hlt, hs', if_neg c1, hw2]
      rcases c3 with c3 | c3 <;> simp [c2, c3, c4]
    · rw [if_neg c4]
      refine ev_step 3 (f := fun k => ephemerisref2_LeapsErr.l0 k s.f0 l (l.length : Int) (i + 1)) ?_ (ih (i + 1) s.f0 (by omega) ht (by omega) (by omega))
      intro k
      simp only [ephemerisref2_LeapsErr.l0, ephemerisref2_LeapsErr.j1, ephemerisref2_LeapsErr.j2]
      rw [if_pos hlt, if_pos h0, if_pos hlt, hs', if_neg c1, hw2, hw]
      rcases c3 with c3 | c3 <;> simp [c2, c3, c4]

/-- What a table of leaps is found to be. -/
def terr (l : List S31) : Int := if (l.length : Int) > 60 then 2 else lerr (-5000000) l
theorem leap_Check_ev (l : List S31) : Ev (fun k => leap_Check.f k l) (terr l) := by
  unfold leap_Check.f terr
  by_cases h : (l.length : Int) > 60
  · simp only [if_pos h]; exact ⟨0, fun _ _ => rfl⟩
  · simp only [if_neg h]
    exact leapCheck_loop l (by omega) l 0 (-5000000) (by omega) rfl (Or.inl ⟨rfl, rfl⟩)
theorem leapsErr_ev (l : List S31) : Ev (fun k => ephemerisref2_LeapsErr.f k l) (terr l) := by
  unfold ephemerisref2_LeapsErr.f terr
  by_cases h : (l.length : Int) > 60
  · simp only [if_pos h]; exact ⟨0, fun _ _ => rfl⟩
  · simp only [if_neg h]
    exact leapsErr_loop l (by omega) l 0 (-5000000) (by omega) rfl (by omega) (by omega)

/-- All of a suffix of a good table. -/
def good (last : Int) : List S31 → Prop
  | [] => True
  | s :: t => -3999998 ≤ s.f0 ∧ s.f0 ≤ 3999998 ∧ (s.f1 = 1 ∨ s.f1 = -1) ∧ last + 2 ≤ s.f0 ∧ good s.f0 t
theorem good_of : ∀ (t : List S31) (last : Int), lerr last t = 0 → good last t
  | [], _, _ => trivial
  | s :: t, last, h => by
    unfold lerr at h
    split at h
    · cases h
    · split at h
      · cases h
      · split at h
        · cases h
        · exact ⟨by omega, by omega, by omega, by omega, good_of t s.f0 h⟩

theorem instant_ok {x : Int} (h1 : -345600000000000 ≤ x) (h2 : x < 345600086400000) : ephemerisref2_InstantErr.f x = some 0 := by
  unfold ephemerisref2_InstantErr.f; rw [if_neg (by omega), if_neg (by omega)]
theorem instant_bad {x : Int} (h : x < -345600000000000 ∨ x ≥ 345600086400000) : ephemerisref2_InstantErr.f x = some 3 := by
  unfold ephemerisref2_InstantErr.f
  split
  · rfl
  · rw [if_pos (by omega)]

/-- A leap that leaves the instant out. -/
def gapB (t day : Int) : List S31 → Bool
  | [] => false
  | s :: r => (decide (s.f0 = day) && decide (s.f1 < 0) && decide (t ≥ (s.f0 + 1) * 86400000 - 1000)) || gapB t day r
/-- The sum of the leaps before a day. -/
def sumB (day : Int) : List S31 → Int
  | [] => 0
  | s :: r => (if s.f0 < day then s.f1 else 0) + sumB day r

theorem sum_bound (day : Int) : ∀ (t : List S31) (last : Int), good last t → -(t.length : Int) ≤ sumB day t ∧ sumB day t ≤ t.length
  | [], _, _ => ⟨by simp [sumB], by simp [sumB]⟩
  | s :: r, last, ⟨g1, g2, g3, g4, g5⟩ => by
    obtain ⟨h1, h2⟩ := sum_bound day r s.f0 g5
    simp only [sumB, List.length_cons]
    split <;> omega

theorem leapSum_loop (l : List S31) (day : Int) (hl : l.length ≤ 60) : ∀ (t : List S31) (i n last : Int), 0 ≤ i → i ≤ l.length → l.drop i.toNat = t → good last t → -i ≤ n → n ≤ i →
    Ev (fun k => leap_Sum.l0 k day n l (l.length : Int) i) (n + sumB day t, 0) := by
  intro t
  induction t with
  | nil =>
    intro i n last h0 hil hd hg hn1 hn2
    have hle := drop_nil h0 hd
    refine ev_some 1 fun k => ?_
    simp only [leap_Sum.l0]
    rw [if_neg (by omega)]
    simp [sumB]
  | cons s t ih =>
    intro i n last h0 hil hd hg hn1 hn2
    obtain ⟨hlt, hs, ht⟩ := drop_cons z31 h0 hd
    have hs' : rd_T31 l i = s := hs
    obtain ⟨g1, g2, g3, g4, g5⟩ := hg
    have a9 : wrap64 (i + 1) = i + 1 := w64 (by omega) (by omega)
    have a10 : wrap64 (n + s.f1) = n + s.f1 := w64 (by omega) (by omega)
    by_cases c : s.f0 < day
    · have := ih (i + 1) (n + s.f1) s.f0 (by omega) (by omega) ht g5 (by omega) (by omega)
      rw [show n + sumB day (s :: t) = n + s.f1 + sumB day t by simp only [sumB, if_pos c]; omega]
      refine ev_step 1 (fun k => ?_) this
      rw [leap_Sum.l0]
      rw [if_pos hlt, if_pos h0, if_pos hlt, hs', if_pos c, a9, a10]
    · have := ih (i + 1) n s.f0 (by omega) (by omega) ht g5 (by omega) (by omega)
      rw [show n + sumB day (s :: t) = n + sumB day t by simp only [sumB, if_neg c]; omega]
      refine ev_step 1 (fun k => ?_) this
      rw [leap_Sum.l0]
      rw [if_pos hlt, if_pos h0, if_pos hlt, hs', if_neg c, a9]

theorem terr_zero {l : List S31} (c : terr l = 0) : l.length ≤ 60 ∧ good (-5000000) l := by
  unfold terr at c
  split at c
  · cases c
  · exact ⟨by omega, good_of _ _ c⟩
theorem leapSum_ev (l : List S31) (day : Int) (h : terr l = 0) (hd1 : -4000000 ≤ day) (hd2 : day ≤ 4000000) : Ev (fun k => leap_Sum.f k l day) (sumB day l, 0) := by
  obtain ⟨hl, hg⟩ := terr_zero h
  unfold leap_Sum.f
  refine ev_bind (leap_Check_ev l) ?_
  simp only [h, if_true, if_neg (show ¬ day < -4000000 by omega)]
  refine ev_step 1 (f := fun k => leap_Sum.l0 k day 0 l (l.length : Int) 0) (fun k => ?_) ?_
  · rw [leap_Sum.j0, if_neg (by simp; omega)]
  · have := leapSum_loop l day hl l 0 0 (-5000000) (by omega) (by omega) rfl hg (by omega) (by omega)
    rwa [Int.zero_add] at this

theorem leapCount_loop (l : List S31) (t day : Int) (hl : terr l = 0) (ht1 : -345600000000000 ≤ t) (ht2 : t < 345600086400000) (hday1 : -4000000 ≤ day) (hday2 : day ≤ 4000000) : ∀ (r : List S31) (i last : Int), 0 ≤ i → l.drop i.toNat = r → good last r →
    Ev (fun k => leap_Count.l0 k l t day l (l.length : Int) i) (if gapB t day r = true then (0, 15) else (t + 1000 * sumB day l, 0)) := by
  obtain ⟨hl60, hg0⟩ := terr_zero hl
  have hsb := sum_bound day l _ hg0
  intro r
  induction r with
  | nil =>
    intro i last h0 hd hg
    have hle := drop_nil h0 hd
    have key : Ev (fun k => (leap_Sum.f k l day).bind fun bt116 => some (wrap64 (t + (wrap64 (bt116.1 * 1000))), (0 : Int))) (t + 1000 * sumB day l, 0) := by
      refine ev_bind (leapSum_ev l day hl hday1 hday2) ?_
      have a1 : wrap64 (sumB day l * 1000) = 1000 * sumB day l := (w64 (by omega) (by omega)).trans (by omega)
      have a2 : wrap64 (t + 1000 * sumB day l) = t + 1000 * sumB day l := w64 (by omega) (by omega)
      simp only [a1, a2]
      exact ⟨0, fun _ _ => rfl⟩
    rw [if_neg (by simp [gapB])]
    refine ev_step 1 (fun k => ?_) key
    rw [leap_Count.l0, if_neg (by omega)]
  | cons s r ih =>
    intro i last h0 hd hg
    obtain ⟨hlt, hs, ht⟩ := drop_cons z31 h0 hd
    have hs' : rd_T31 l i = s := hs
    obtain ⟨g1, g2, g3, g4, g5⟩ := hg
    have a1 : wrap64 (s.f0 + 1) = s.f0 + 1 := w64 (by omega) (by omega)
    have a2 : wrap64 ((s.f0 + 1) * 86400000) = (s.f0 + 1) * 86400000 := w64 (by omega) (by omega)
    have a3 : wrap64 ((s.f0 + 1) * 86400000 - 1000) = (s.f0 + 1) * 86400000 - 1000 := w64 (by omega) (by omega)
    have a9 : wrap64 (i + 1) = i + 1 := w64 (by omega) (by omega)
    have hend : leap_end.f s.f0 s.f1 = some ((s.f0 + 1) * 86400000) := by unfold leap_end.f; rw [a1, a2]
    have hun : ∀ k, leap_Count.l0 (k + 1) l t day l (l.length : Int) i = (if s.f0 = day then (if s.f1 < 0 then (if t ≥ (s.f0 + 1) * 86400000 - 1000 then some (0, 15) else leap_Count.l0 k l t day l (l.length : Int) (i + 1)) else leap_Count.l0 k l t day l (l.length : Int) (i + 1)) else leap_Count.l0 k l t day l (l.length : Int) (i + 1)) := by
      intro k
      rw [leap_Count.l0, if_pos hlt, if_pos h0, if_pos hlt, hs', hend, Option.bind_some, a3, a9]
    have := ih (i + 1) s.f0 (by omega) ht g5
    by_cases c1 : s.f0 = day
    · by_cases c2 : s.f1 < 0
      · by_cases c3 : t ≥ (s.f0 + 1) * 86400000 - 1000
        · rw [if_pos (by simp only [gapB, decide_eq_true c1, decide_eq_true c2, decide_eq_true c3]; rfl)]
          exact ev_some 1 fun k => by rw [hun, if_pos c1, if_pos c2, if_pos c3]
        · rw [show gapB t day (s :: r) = gapB t day r by simp only [gapB, decide_eq_false c3]; simp]
          exact ev_step 1 (fun k => by rw [hun, if_pos c1, if_pos c2, if_neg c3]) this
      · rw [show gapB t day (s :: r) = gapB t day r by simp only [gapB, decide_eq_false c2]; simp]
        exact ev_step 1 (fun k => by rw [hun, if_pos c1, if_neg c2]) this
    · rw [show gapB t day (s :: r) = gapB t day r by simp only [gapB, decide_eq_false c1]; simp]
      exact ev_step 1 (fun k => by rw [hun, if_neg c1]) this

theorem refCount_loop (l : List S31) (t day : Int) (hl : l.length ≤ 60) (ht1 : -345600000000000 ≤ t) (ht2 : t < 345600086400000) (hd1 : day * 86400000 ≤ t) (hd2 : t < (day + 1) * 86400000) : ∀ (r : List S31) (i c last : Int), 0 ≤ i → i ≤ l.length → l.drop i.toNat = r → good last r → t - 1000 * i ≤ c → c ≤ t + 1000 * i →
    Ev (fun k => ephemerisref2_Count.l0 k t c l (l.length : Int) i) (if gapB t day r = true then (0, false) else (c + 1000 * sumB day r, true)) := by
  intro r
  induction r with
  | nil =>
    intro i c last h0 hil hd hg hc1 hc2
    have hle := drop_nil h0 hd
    refine ev_some 1 fun k => ?_
    rw [ephemerisref2_Count.l0, if_neg (by omega), if_neg (by simp [gapB])]
    simp [sumB]
  | cons s r ih =>
    intro i c last h0 hil hd hg hc1 hc2
    obtain ⟨hlt, hs, ht⟩ := drop_cons z31 h0 hd
    have hs' : rd_T31 l i = s := hs
    obtain ⟨g1, g2, g3, g4, g5⟩ := hg
    have a1 : wrap64 (s.f0 + 1) = s.f0 + 1 := w64 (by omega) (by omega)
    have a2 : wrap64 ((s.f0 + 1) * 86400000) = (s.f0 + 1) * 86400000 := w64 (by omega) (by omega)
    have a3 : wrap64 ((s.f0 + 1) * 86400000 - 1000) = (s.f0 + 1) * 86400000 - 1000 := w64 (by omega) (by omega)
    have a4 : wrap64 (1000 * s.f1) = 1000 * s.f1 := w64 (by omega) (by omega)
    have a5 : wrap64 (c + 1000 * s.f1) = c + 1000 * s.f1 := w64 (by omega) (by omega)
    have a9 : wrap64 (i + 1) = i + 1 := w64 (by omega) (by omega)
    have hun : ∀ k, ephemerisref2_Count.l0 (k + 1) t c l (l.length : Int) i = (if t ≥ (s.f0 + 1) * 86400000 then ephemerisref2_Count.l0 k t (c + 1000 * s.f1) l (l.length : Int) (i + 1) else (if s.f1 = -1 then (if t ≥ (s.f0 + 1) * 86400000 - 1000 then some (0, false) else ephemerisref2_Count.l0 k t c l (l.length : Int) (i + 1)) else ephemerisref2_Count.l0 k t c l (l.length : Int) (i + 1))) := by
      intro k
      rw [ephemerisref2_Count.l0, if_pos hlt, if_pos h0, if_pos hlt, hs', a1, a2, a3, a4, a5, a9]
    by_cases c1 : t ≥ (s.f0 + 1) * 86400000
    · have hlt2 : s.f0 < day := by omega
      have hne : ¬ s.f0 = day := by omega
      rw [show gapB t day (s :: r) = gapB t day r by simp only [gapB, decide_eq_false hne]; simp]
      rw [show c + 1000 * sumB day (s :: r) = c + 1000 * s.f1 + 1000 * sumB day r by simp only [sumB, if_pos hlt2]; omega]
      exact ev_step 1 (fun k => by rw [hun, if_pos c1]) (ih (i + 1) (c + 1000 * s.f1) s.f0 (by omega) (by omega) ht g5 (by omega) (by omega))
    have hge : ¬ s.f0 < day := by omega
    have hsum : c + 1000 * sumB day (s :: r) = c + 1000 * sumB day r := by simp only [sumB, if_neg hge]; omega
    have := ih (i + 1) c s.f0 (by omega) (by omega) ht g5 (by omega) (by omega)
    by_cases c2 : s.f1 = -1
    · by_cases c3 : t ≥ (s.f0 + 1) * 86400000 - 1000
      · have e1 : s.f0 = day := by omega
        have e2 : s.f1 < 0 := by omega
        rw [if_pos (by simp only [gapB, decide_eq_true e1, decide_eq_true e2, decide_eq_true c3]; rfl)]
        exact ev_some 1 fun k => by rw [hun, if_neg c1, if_pos c2, if_pos c3]
      · rw [show gapB t day (s :: r) = gapB t day r by simp only [gapB, decide_eq_false c3]; simp, hsum]
        exact ev_step 1 (fun k => by rw [hun, if_neg c1, if_pos c2, if_neg c3]) this
    · have e2 : ¬ s.f1 < 0 := by omega
      rw [show gapB t day (s :: r) = gapB t day r by simp only [gapB, decide_eq_false e2]; simp, hsum]
      exact ev_step 1 (fun k => by rw [hun, if_neg c1, if_neg c2]) this

/-- Count of the reference answers for whatever table. -/
theorem refCount_total (l : List S31) (t : Int) (hl : (l.length : Int) ≤ 9223372036854775807) : ∀ (r : List S31) (i c : Int), 0 ≤ i → l.drop i.toNat = r → ∃ q, Ev (fun k => ephemerisref2_Count.l0 k t c l (l.length : Int) i) q := by
  intro r
  induction r with
  | nil =>
    intro i c h0 hd
    have hle := drop_nil h0 hd
    exact ⟨_, ev_some 1 fun k => by rw [ephemerisref2_Count.l0, if_neg (by omega)]⟩
  | cons s r ih =>
    intro i c h0 hd
    obtain ⟨hlt, hs, ht⟩ := drop_cons z31 h0 hd
    have hs' : rd_T31 l i = s := hs
    have a9 : wrap64 (i + 1) = i + 1 := w64 (by omega) (by omega)
    have hun : ∀ k, ephemerisref2_Count.l0 (k + 1) t c l (l.length : Int) i = _ := fun k => by
      rw [ephemerisref2_Count.l0, if_pos hlt, if_pos h0, if_pos hlt, hs', a9]
    by_cases c1 : t ≥ wrap64 (wrap64 (s.f0 + 1) * 86400000)
    · obtain ⟨q, hq⟩ := ih (i + 1) (wrap64 (c + wrap64 (1000 * s.f1))) (by omega) ht
      exact ⟨q, ev_step 1 (fun k => by rw [hun, if_pos c1]) hq⟩
    obtain ⟨q, hq⟩ := ih (i + 1) c (by omega) ht
    by_cases c2 : s.f1 = -1
    · by_cases c3 : t ≥ wrap64 (wrap64 (wrap64 (s.f0 + 1) * 86400000) - 1000)
      · exact ⟨_, ev_some 1 fun k => by rw [hun, if_neg c1, if_pos c2, if_pos c3]⟩
      · exact ⟨q, ev_step 1 (fun k => by rw [hun, if_neg c1, if_pos c2, if_neg c3]) hq⟩
    · exact ⟨q, ev_step 1 (fun k => by rw [hun, if_neg c1, if_neg c2]) hq⟩
theorem refCount_ev (l : List S31) (t day : Int) (hl : terr l = 0) (ht1 : -345600000000000 ≤ t) (ht2 : t < 345600086400000) (hd1 : day * 86400000 ≤ t) (hd2 : t < (day + 1) * 86400000) :
    Ev (fun k => ephemerisref2_Count.f k l t) (if gapB t day l = true then (0, false) else (t + 1000 * sumB day l, true)) := by
  obtain ⟨hl60, hg0⟩ := terr_zero hl
  exact refCount_loop l t day hl60 ht1 ht2 hd1 hd2 l 0 t (-5000000) (by omega) (by omega) rfl hg0 (by omega) (by omega)
theorem works_ev : Ev (fun k => ephemerislaw2_leapWorks.f k) true := Ev.of ephemerislaw2_leapWorks.mono (k := 20) (by decide +kernel)
/-- Count. -/
def cnt (l : List S31) (t : Int) : Int × Int := if terr l = 0 then (if -345600000000000 ≤ t ∧ t < 345600086400000 then (if gapB t (t / 86400000) l = true then (0, 15) else (t + 1000 * sumB (t / 86400000) l, 0)) else (0, 3)) else (0, terr l)
theorem leapCount_ev (l : List S31) (t : Int) (ht : I64 t) : Ev (fun k => leap_Count.f k l t) (cnt l t) := by
  unfold leap_Count.f
  refine ev_bind (leap_Check_ev l) ?_
  unfold cnt
  by_cases e : terr l = 0
  · obtain ⟨hl60, hg0⟩ := terr_zero e
    simp only [if_pos e]
    by_cases v : -345600000000000 ≤ t ∧ t < 345600086400000
    · have hv : series_Valid.f t = some true := by unfold series_Valid.f; rw [if_pos v.1]; simp [v.2]
      simp only [hv, Option.bind_some, if_true, floor_pos ht (show (0 : Int) < 86400000 by omega), if_pos v]
      exact leapCount_loop l t (t / 86400000) e v.1 v.2 (by omega) (by omega) l 0 (-5000000) (by omega) rfl hg0
    · have hv : series_Valid.f t = some false := by
        unfold series_Valid.f
        split
        · rename_i h; simp; omega
        · rfl
      simp only [hv, Option.bind_some, if_neg v]
      exact ⟨0, fun _ _ => rfl⟩
  · simp only [if_neg e]; exact ⟨0, fun _ _ => rfl⟩

theorem LeapCounts : PureX := by
  intro l t hl ht
  refine ev_k ?_
  unfold ephemerislaw2_LeapCounts.f
  refine ev_bind works_ev ?_
  simp only [if_true]
  refine ev_bind (leapCount_ev l t ht) ?_
  refine ev_bind (leapsErr_ev l) ?_
  refine ev_bind (leap_Check_ev l) ?_
  simp only [if_true]
  obtain ⟨q, hq⟩ := refCount_total l t (by have := hl.1; omega) l 0 t (by omega) rfl
  have hq' : Ev (fun k => ephemerisref2_Count.f k l t) q := hq
  unfold cnt
  by_cases e : terr l = 0
  · simp only [if_pos e]
    by_cases v : -345600000000000 ≤ t ∧ t < 345600086400000
    · simp only [instant_ok v.1 v.2, Option.bind_some, if_pos v]
      have hr := refCount_ev l t (t / 86400000) e v.1 v.2 (by omega) (by omega)
      by_cases hgap : gapB t (t / 86400000) l = true
      · simp only [if_pos hgap] at hr ⊢
        refine ev_step 1 (f := fun k => (ephemerisref2_Count.f k l t).bind fun bt142 => ephemerislaw2_LeapCounts.j1 k l t 0 15 0 bt142.1 (!bt142.2)) (fun k => by rw [ephemerislaw2_LeapCounts.j0]; rfl) ?_
        refine ev_bind hr ?_
        refine ev_some 2 fun k => ?_
        simp [ephemerislaw2_LeapCounts.j1, ephemerislaw2_LeapCounts.j2]
      · simp only [if_neg hgap] at hr ⊢
        refine ev_step 1 (f := fun k => (ephemerisref2_Count.f k l t).bind fun bt142 => ephemerislaw2_LeapCounts.j1 k l t (t + 1000 * sumB (t / 86400000) l) 0 0 bt142.1 (!bt142.2)) (fun k => by rw [ephemerislaw2_LeapCounts.j0]; rfl) ?_
        refine ev_bind hr ?_
        have hsum := sum_bound (t / 86400000) l _ (terr_zero e).2
        have hlen := (terr_zero e).1
        have a1 : wrap64 (t - t % 86400000) = t - t % 86400000 := w64 (by omega) (by omega)
        have a2 : wrap64 (Int.tdiv (t - t % 86400000) 86400000) = t / 86400000 := by
          have : t - t % 86400000 = (t / 86400000) * 86400000 := by omega
          rw [this, Int.mul_tdiv_cancel _ (by omega), w64 (by omega) (by omega)]
        have a3 : wrap64 (1000 * sumB (t / 86400000) l) = 1000 * sumB (t / 86400000) l := w64 (by omega) (by omega)
        have a4 : wrap64 (t + 1000 * sumB (t / 86400000) l) = t + 1000 * sumB (t / 86400000) l := w64 (by omega) (by omega)
        refine ev_step 2 (f := fun k => (leap_Sum.f k l (t / 86400000)).bind fun bt145 => (if bt145.2 = 0 then (some ((wrap64 (t + (wrap64 (1000 * bt145.1)))) == t + 1000 * sumB (t / 86400000) l)) else (some false))) (fun k => ?_) ?_
        · simp only [ephemerislaw2_LeapCounts.j1, ephemerislaw2_LeapCounts.j2, mod_pos (a := t) (show (0 : Int) < 86400000 by omega) (by omega), Option.bind_some, a1, a2]
          simp
        · refine ev_bind (leapSum_ev l _ e (by omega) (by omega)) ?_
          simp only [a3, a4, if_true]
          exact ⟨0, fun _ _ => by simp⟩
    · simp only [instant_bad (show t < -345600000000000 ∨ t ≥ 345600086400000 by omega), Option.bind_some, if_neg v]
      refine ev_step 1 (f := fun k => (ephemerisref2_Count.f k l t).bind fun bt142 => ephemerislaw2_LeapCounts.j1 k l t 0 3 3 bt142.1 false) (fun k => by rw [ephemerislaw2_LeapCounts.j0]; rfl) ?_
      refine ev_bind hq' ?_
      refine ev_some 2 fun k => ?_
      simp [ephemerislaw2_LeapCounts.j1, ephemerislaw2_LeapCounts.j2]
  · simp only [if_neg e]
    refine ev_step 1 (f := fun k => (ephemerisref2_Count.f k l t).bind fun bt142 => ephemerislaw2_LeapCounts.j1 k l t 0 (terr l) (terr l) bt142.1 false) (fun k => by rw [ephemerislaw2_LeapCounts.j0]; simp [e]) ?_
    refine ev_bind hq' ?_
    refine ev_some 2 fun k => ?_
    simp [ephemerislaw2_LeapCounts.j1, ephemerislaw2_LeapCounts.j2, e]

end Go.Proofs.Ytcmgfhfnfkelfaa.Pure
