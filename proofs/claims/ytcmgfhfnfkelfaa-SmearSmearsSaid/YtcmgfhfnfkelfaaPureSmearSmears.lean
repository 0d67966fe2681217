/- SmearSmears: Smear and Offset of the program answer as the document says, for every table of leaps, half and counted number. -/
import Derived.Test.YtcmgfhfnfkelfaaOpnSmearSmears
import Derived.Test.YtcmgfhfnfkelfaaBase
namespace Go.Proofs.Ytcmgfhfnfkelfaa.Pure
open Go.RowKit Go.Proofs.YtcmgfhfnfkelfaaW.PrintWords Go.Proofs.YtcmgfhfnfkelfaaW.PrintLast Go.Proofs.Ytcmgfhfnfkelfaa.Opn Go.Proofs.Ytcmgfhfnfkelfaa.PSmearSmears Go.Proofs.Ytcmgfhfnfkelfaa.Base
set_option linter.unusedVariables false
set_option linter.unusedSimpArgs false

/-- What a table of leaps is found to be, from a day on. -/
def lerr (last : Int) : List S31 → Int
  | [] => 0
  | s :: t => if s.f0 < -3999998 ∨ s.f0 > 3999998 then 3 else if s.f1 ≠ 1 ∧ s.f1 ≠ -1 then 1 else if s.f0 - last < 2 then 9 else lerr s.f0 t

theorem leapCheck_loop (l : List S31) (hl : l.length ≤ 60) : ∀ (t : List S31) (i last : Int), 0 ≤ i → l.drop i.toNat = t →
    (i = 0 ∧ last = -5000000 ∨ 0 < i ∧ last = (rd_T31 l (i - 1)).f0 ∧ -3999998 ≤ last ∧ last ≤ 3999998) →
    Ev (fun k => leap_Check.l0 k l l (l.length : Int) i) (lerr last t) := by
  intro t
  induction t with
  | nil =>
    intro i last h0 hd hi
    have := drop_nil h0 hd
    refine ev_some 1 fun k => ?_
    simp only [leap_Check.l0]
    rw [if_neg (by omega)]; rfl
  | cons s t ih =>
    intro i last h0 hd hi
    obtain ⟨hlt, hs, ht⟩ := drop_cons z31 h0 hd
    have hs' : rd_T31 l i = s := hs
    unfold lerr
    by_cases c1 : s.f0 < -3999998
    · rw [if_pos (Or.inl c1)]
      refine ev_some 2 fun k => ?_
      simp only [leap_Check.l0, leap_Check.j1]
      rw [if_pos hlt, if_pos h0, if_pos hlt, hs', if_pos c1]; rfl
    by_cases c2 : s.f0 > 3999998
    · rw [if_pos (Or.inr c2)]
      refine ev_some 2 fun k => ?_
      simp only [leap_Check.l0, leap_Check.j1]
      rw [if_pos hlt, if_pos h0, if_pos hlt, hs', if_neg c1]; simp [c2]
    rw [if_neg (by omega)]
    by_cases c3 : s.f1 = 1 ∨ s.f1 = -1
    rotate_left
    · rw [if_pos (by omega)]
      refine ev_some 3 fun k => ?_
      simp only [leap_Check.l0, leap_Check.j1, leap_Check.j2]
      rw [if_pos hlt, if_pos h0, if_pos hlt, hs', if_neg c1]
      have e1 : s.f1 ≠ 1 := by omega
      have e2 : s.f1 ≠ -1 := by omega
      simp [c2, e1, e2]
    rw [if_neg (by omega)]
    have hj2 : ∀ k, leap_Check.l0 (k + 3) l l (l.length : Int) i = (if i > 0 then (if s.f0 < last + 2 then some 9 else leap_Check.l0 k l l (l.length : Int) (i + 1)) else leap_Check.l0 k l l (l.length : Int) (i + 1)) := by
      intro k
      simp only [leap_Check.l0, leap_Check.j1, leap_Check.j2]
      rw [if_pos hlt, if_pos h0, if_pos hlt, hs', if_neg c1]
      have hw : wrap64 (i + 1) = i + 1 := w64 (by omega) (by omega)
      have hw2 : wrap64 (i - 1) = i - 1 := w64 (by omega) (by omega)
      rw [hw, hw2]
      by_cases hi0 : i > 0
      · rcases hi with ⟨hi, _⟩ | ⟨_, hl1, hl2, hl3⟩
        · omega
        have hw3 : wrap64 (last + 2) = last + 2 := w64 (by omega) (by omega)
        have hi1 : 0 ≤ i - 1 := by omega
        have hi2 : i - 1 < (l.length : Int) := by omega
        rw [show decide (s.f0 > 3999998) = false from decide_eq_false c2, if_neg Bool.false_ne_true]
        rcases c3 with c3 | c3
        · rw [if_pos c3, if_neg Bool.false_ne_true, if_pos hi0, if_pos hi1, if_pos hi2, ← hl1, hw3, if_pos hi0]
        · rw [if_neg (by omega), show (s.f1 != -1) = false by simp [c3], if_neg Bool.false_ne_true, if_pos hi0, if_pos hi1, if_pos hi2, ← hl1, hw3, if_pos hi0]
      · rw [show decide (s.f0 > 3999998) = false from decide_eq_false c2, if_neg Bool.false_ne_true]
        rcases c3 with c3 | c3
        · rw [if_pos c3, if_neg Bool.false_ne_true, if_neg hi0, if_neg hi0]
        · rw [if_neg (by omega), show (s.f1 != -1) = false by simp [c3], if_neg Bool.false_ne_true, if_neg hi0, if_neg hi0]
    by_cases c4 : s.f0 - last < 2
    · rw [if_pos c4]
      refine ev_some 3 fun k => ?_
      rw [hj2]
      rcases hi with ⟨_, hi⟩ | ⟨hi, _, _, _⟩
      · omega
      rw [if_pos hi, if_pos (by omega)]
    · rw [if_neg c4]
      refine ev_step 3 (f := fun k => leap_Check.l0 k l l (l.length : Int) (i + 1)) ?_ (ih (i + 1) s.f0 (by omega) ht (Or.inr ⟨by omega, ?_, by omega, by omega⟩))
      · intro k
        rw [hj2]
        split
        · rw [if_neg (by omega)]
        · rfl
      · rw [show i + 1 - 1 = i by omega, hs']

theorem leapsErr_loop (l : List S31) (hl : l.length ≤ 60) : ∀ (t : List S31) (i last : Int), 0 ≤ i → l.drop i.toNat = t → -5000000 ≤ last → last ≤ 3999998 →
    Ev (fun k => ephemerisref2_LeapsErr.l0 k last l (l.length : Int) i) (lerr last t) := by
  intro t
  induction t with
  | nil =>
    intro i last h0 hd hi hi'
    have := drop_nil h0 hd
    refine ev_some 1 fun k => ?_
    simp only [ephemerisref2_LeapsErr.l0]
    rw [if_neg (by omega)]; rfl
  | cons s t ih =>
    intro i last h0 hd hi hi'
    obtain ⟨hlt, hs, ht⟩ := drop_cons z31 h0 hd
    have hs' : rd_T31 l i = s := hs
    unfold lerr
    by_cases c1 : s.f0 < -3999998
    · rw [if_pos (Or.inl c1)]
      refine ev_some 2 fun k => ?_
      simp only [ephemerisref2_LeapsErr.l0, ephemerisref2_LeapsErr.j1]
      rw [if_pos hlt, if_pos h0, if_pos hlt, hs', if_pos c1]; rfl
    by_cases c2 : s.f0 > 3999998
    · rw [if_pos (Or.inr c2)]
      refine ev_some 2 fun k => ?_
      simp only [ephemerisref2_LeapsErr.l0, ephemerisref2_LeapsErr.j1]
      rw [if_pos hlt, if_pos h0, if_pos hlt, hs', if_neg c1]; simp [c2]
    rw [if_neg (by omega)]
    by_cases c3 : s.f1 = 1 ∨ s.f1 = -1
    rotate_left
    · rw [if_pos (by omega)]
      refine ev_some 3 fun k => ?_
      simp only [ephemerisref2_LeapsErr.l0, ephemerisref2_LeapsErr.j1, ephemerisref2_LeapsErr.j2]
      rw [if_pos hlt, if_pos h0, if_pos hlt, hs', if_neg c1]
      have e1 : s.f1 ≠ 1 := by omega
      have e2 : s.f1 ≠ -1 := by omega
      simp [c2, e1, e2]
    rw [if_neg (by omega)]
    have hw : wrap64 (i + 1) = i + 1 := w64 (by omega) (by omega)
    have hw2 : wrap64 (s.f0 - last) = s.f0 - last := w64 (by omega) (by omega)
    by_cases c4 : s.f0 - last < 2
    · rw [if_pos c4]
      refine ev_some 3 fun k => ?_
      simp only [ephemerisref2_LeapsErr.l0, ephemerisref2_LeapsErr.j1, ephemerisref2_LeapsErr.j2]
      rw [if_pos hlt, if_pos h0, if_pos hlt, hs', if_neg c1, hw2]
      rcases c3 with c3 | c3 <;> simp [c2, c3, c4]
    · rw [if_neg c4]
      refine ev_step 3 (f := fun k => ephemerisref2_LeapsErr.l0 k s.f0 l (l.length : Int) (i + 1)) ?_ (ih (i + 1) s.f0 (by omega) ht (by omega) (by omega))
      intro k
      simp only [ephemerisref2_LeapsErr.l0, ephemerisref2_LeapsErr.j1, ephemerisref2_LeapsErr.j2]
      rw [if_pos hlt, if_pos h0, if_pos hlt, hs', if_neg c1, hw2, hw]
      rcases c3 with c3 | c3 <;> simp [c2, c3, c4]

/-- What a table of leaps is found to be. -/
def terr (l : List S31) : Int := if (l.length : Int) > 60 then 2 else lerr (-5000000) l
theorem leap_Check_ev (l : List S31) : Ev (fun k => leap_Check.f k l) (terr l) := by
  unfold leap_Check.f terr
  by_cases h : (l.length : Int) > 60
  · simp only [if_pos h]; exact ⟨0, fun _ _ => rfl⟩
  · simp only [if_neg h]
    exact leapCheck_loop l (by omega) l 0 (-5000000) (by omega) rfl (Or.inl ⟨rfl, rfl⟩)
theorem leapsErr_ev (l : List S31) : Ev (fun k => ephemerisref2_LeapsErr.f k l) (terr l) := by
  unfold ephemerisref2_LeapsErr.f terr
  by_cases h : (l.length : Int) > 60
  · simp only [if_pos h]; exact ⟨0, fun _ _ => rfl⟩
  · simp only [if_neg h]
    exact leapsErr_loop l (by omega) l 0 (-5000000) (by omega) rfl (by omega) (by omega)

/-- The errors of a table and half of the time of spreading. -/
def cerr (l : List S31) (h : Int) : Int := if terr l = 0 then (if h < 1000 ∨ h > 43200000 then 1 else 0) else terr l
theorem smear_Check_ev (l : List S31) (h : Int) : Ev (fun k => smear_Check.f k l h) (cerr l h) := by
  unfold smear_Check.f
  refine ev_bind (leap_Check_ev l) ?_
  unfold cerr
  by_cases c : terr l = 0
  · simp only [c, if_true]
    by_cases c1 : h < 1000
    · simp only [if_pos c1, if_pos (Or.inl c1)]; exact ⟨0, fun _ _ => rfl⟩
    · by_cases c2 : h > 43200000
      · simp only [if_neg c1, if_pos c2, if_pos (show h < 1000 ∨ h > 43200000 from Or.inr c2)]; exact ⟨0, fun _ _ => rfl⟩
      · simp only [if_neg c1, if_neg c2, if_neg (show ¬(h < 1000 ∨ h > 43200000) by omega)]; exact ⟨0, fun _ _ => rfl⟩
  · simp only [if_neg c]; exact ⟨0, fun _ _ => rfl⟩

/-- A number that may be an instant. -/
def fin (t : Int) : Int × Int := if -345600000000000 ≤ t ∧ t < 345600086400000 then (t, 0) else (0, 3)

/-- Smear over a suffix of the table, n leaps behind it. -/
def sm (h c : Int) : Int → List S31 → Int × Int
  | n, [] => fin (wrap64 (c - 1000 * n))
  | n, s :: t => if wrap64 (c - ((s.f0 + 1) * 86400000 - h) - 1000 * n) < 0 then fin (wrap64 (c - 1000 * n))
    else if wrap64 (c - ((s.f0 + 1) * 86400000 - h) - 1000 * n) < 2 * h + 1000 * s.f1 then ((s.f0 + 1) * 86400000 - h + Int.tdiv (wrap64 (c - ((s.f0 + 1) * 86400000 - h) - 1000 * n) * 2 * h) (2 * h + 1000 * s.f1), 0)
    else sm h c (n + s.f1) t

theorem valid_ev (t : Int) : (series_Valid.f t).bind (fun t109 => (if t109 = true then (some (t, (0 : Int))) else (some (0, 3)))) = some (fin t) := by
  unfold series_Valid.f fin
  by_cases h1 : t ≥ -345600000000000
  · rw [if_pos h1]
    by_cases h2 : t < 345600086400000
    · rw [if_pos ⟨h1, h2⟩]; simp [h2]
    · rw [if_neg (by omega)]; simp [h2]
  · rw [if_neg h1, if_neg (by omega)]; rfl

/-- All of a suffix of a good table. -/
def good (last : Int) : List S31 → Prop
  | [] => True
  | s :: t => -3999998 ≤ s.f0 ∧ s.f0 ≤ 3999998 ∧ (s.f1 = 1 ∨ s.f1 = -1) ∧ last + 2 ≤ s.f0 ∧ good s.f0 t
theorem good_of : ∀ (t : List S31) (last : Int), lerr last t = 0 → good last t
  | [], _, _ => trivial
  | s :: t, last, h => by
    unfold lerr at h
    split at h
    · cases h
    · split at h
      · cases h
      · split at h
        · cases h
        · exact ⟨by omega, by omega, by omega, by omega, good_of t s.f0 h⟩

theorem smear_loop (l : List S31) (h c : Int) (hl : l.length ≤ 60) (hh1 : 1000 ≤ h) (hh2 : h ≤ 43200000) : ∀ (t : List S31) (i n last : Int), 0 ≤ i → i ≤ l.length → l.drop i.toNat = t → good last t → -i ≤ n → n ≤ i →
    Ev (fun k => smear_Smear.l0 k h c n l (l.length : Int) i) (sm h c n t) := by
  intro t
  induction t with
  | nil =>
    intro i n last h0 hil hd hg hn1 hn2
    have hle := drop_nil h0 hd
    refine ev_some 1 fun k => ?_
    simp only [smear_Smear.l0]
    rw [if_neg (by omega), valid_ev]
    unfold sm
    rw [show wrap64 (n * 1000) = 1000 * n from (w64 (by omega) (by omega)).trans (by omega)]
  | cons s t ih =>
    intro i n last h0 hil hd hg hn1 hn2
    obtain ⟨hlt, hs, ht⟩ := drop_cons z31 h0 hd
    have hs' : rd_T31 l i = s := hs
    obtain ⟨g1, g2, g3, g4, g5⟩ := hg
    have a1 : wrap64 (s.f0 + 1) = s.f0 + 1 := w64 (by omega) (by omega)
    have a2 : wrap64 ((s.f0 + 1) * 86400000) = (s.f0 + 1) * 86400000 := w64 (by omega) (by omega)
    have a3 : wrap64 ((s.f0 + 1) * 86400000 - h) = (s.f0 + 1) * 86400000 - h := w64 (by omega) (by omega)
    have a4 : wrap64 (n * 1000) = 1000 * n := (w64 (by omega) (by omega)).trans (by omega)
    have a5 : wrap64 (wrap64 (c - ((s.f0 + 1) * 86400000 - h)) - 1000 * n) = wrap64 (c - ((s.f0 + 1) * 86400000 - h) - 1000 * n) := by unfold wrap64; omega
    have a6 : wrap64 (2 * h) = 2 * h := w64 (by omega) (by omega)
    have a7 : wrap64 (s.f1 * 1000) = 1000 * s.f1 := (w64 (by omega) (by omega)).trans (by omega)
    have a8 : wrap64 (2 * h + 1000 * s.f1) = 2 * h + 1000 * s.f1 := w64 (by omega) (by omega)
    have a9 : wrap64 (i + 1) = i + 1 := w64 (by omega) (by omega)
    have a10 : wrap64 (n + s.f1) = n + s.f1 := w64 (by omega) (by omega)
    have hun : ∀ k, smear_Smear.l0 (k + 1) h c n l (l.length : Int) i = (if wrap64 (c - ((s.f0 + 1) * 86400000 - h) - 1000 * n) < 0 then some (fin (wrap64 (c - 1000 * n))) else
        if wrap64 (c - ((s.f0 + 1) * 86400000 - h) - 1000 * n) < 2 * h + 1000 * s.f1 then some (wrap64 ((s.f0 + 1) * 86400000 - h + wrap64 (Int.tdiv (wrap64 (wrap64 (wrap64 (c - ((s.f0 + 1) * 86400000 - h) - 1000 * n) * 2) * h)) (2 * h + 1000 * s.f1))), 0)
        else smear_Smear.l0 k h c (n + s.f1) l (l.length : Int) (i + 1)) := by
      intro k
      rw [smear_Smear.l0]
      rw [if_pos hlt, if_pos h0, if_pos hlt, hs', a1, a2, a3, a4, a5, a6, a7, a8, a9, a10, if_neg (show ¬(2 * h + 1000 * s.f1 = 0) by omega), valid_ev]
    unfold sm
    generalize hy : wrap64 (c - ((s.f0 + 1) * 86400000 - h) - 1000 * n) = y at hun
    by_cases c1 : y < 0
    · rw [if_pos c1]
      exact ev_some 1 fun k => by rw [hun, if_pos c1]
    rw [if_neg c1]
    by_cases c2 : y < 2 * h + 1000 * s.f1
    · rw [if_pos c2]
      refine ev_some 1 fun k => ?_
      rw [hun, if_neg c1, if_pos c2]
      have b0 : wrap64 (y * 2) = y * 2 := w64 (by omega) (by omega)
      have b1 : 0 ≤ y * 2 * h := Int.mul_nonneg (by omega) (by omega)
      have b2 : y * 2 * h ≤ 172802000 * 43200000 := Int.mul_le_mul (by omega) (by omega) (by omega) (by omega)
      have b3 : wrap64 (y * 2 * h) = y * 2 * h := w64 (by omega) (by omega)
      have b4 : 0 ≤ Int.tdiv (y * 2 * h) (2 * h + 1000 * s.f1) := Int.tdiv_nonneg b1 (by omega)
      have b5 : Int.tdiv (y * 2 * h) (2 * h + 1000 * s.f1) ≤ y * 2 * h := Int.tdiv_le_self _ b1
      rw [b0, b3]
      generalize Int.tdiv (y * 2 * h) (2 * h + 1000 * s.f1) = z at *
      have b6 : wrap64 z = z := w64 (by omega) (by omega)
      have b7 : wrap64 ((s.f0 + 1) * 86400000 - h + z) = (s.f0 + 1) * 86400000 - h + z := w64 (by omega) (by omega)
      rw [b6, b7]
    · rw [if_neg c2]
      refine ev_step 1 (f := fun k => smear_Smear.l0 k h c (n + s.f1) l (l.length : Int) (i + 1)) ?_ (ih (i + 1) (n + s.f1) s.f0 (by omega) (by omega) ht g5 (by omega) (by omega))
      intro k
      rw [hun, if_neg c1, if_neg c2]

/-- Smear. -/
def smear (l : List S31) (h c : Int) : Int × Int := if cerr l h = 0 then sm h c 0 l else (0, cerr l h)
theorem cerr_zero {l : List S31} {h : Int} (e : cerr l h = 0) : l.length ≤ 60 ∧ good (-5000000) l ∧ 1000 ≤ h ∧ h ≤ 43200000 := by
  unfold cerr at e
  by_cases c : terr l = 0
  · rw [if_pos c] at e
    split at e
    · cases e
    · unfold terr at c
      split at c
      · cases c
      · exact ⟨by omega, good_of _ _ c, by omega, by omega⟩
  · rw [if_neg c] at e; exact absurd e c
theorem smear_ev (l : List S31) (h c : Int) : Ev (fun k => smear_Smear.f k l h c) (smear l h c) := by
  unfold smear_Smear.f
  refine ev_bind (smear_Check_ev l h) ?_
  unfold smear
  by_cases e : cerr l h = 0
  · obtain ⟨hl, hg, h1, h2⟩ := cerr_zero e
    simp only [if_pos e]
    exact smear_loop l h c hl h1 h2 l 0 0 (-5000000) (by omega) (by omega) rfl hg (by omega) (by omega)
  · simp only [if_neg e]; exact ⟨0, fun _ _ => rfl⟩
theorem offset_ev (l : List S31) (h c : Int) : Ev (fun k => smear_Offset.f k l h c) (if (smear l h c).2 = 0 then (wrap64 ((smear l h c).1 - c), 0) else (0, (smear l h c).2)) := by
  unfold smear_Offset.f
  refine ev_bind (smear_ev l h c) ?_
  split <;> exact ⟨0, fun _ _ => rfl⟩


theorem fin_beyond {x : Int} (h : x < -345600000000000 ∨ x ≥ 345600086400000) : fin x = (0, 3) := by unfold fin; rw [if_neg (by omega)]
theorem sm_beyond (h c : Int) (hh1 : 1000 ≤ h) (hh2 : h ≤ 43200000) (hc : c < -400000000000000 ∨ c > 400000000000000) (hi : I64 c) : ∀ (t : List S31) (n last : Int) , good last t → -60 ≤ n - t.length → n + t.length ≤ 60 → sm h c n t = (0, 3) := by
  obtain ⟨hi1, hi2⟩ := hi
  have hf : ∀ n : Int, -60 ≤ n → n ≤ 60 → fin (wrap64 (c - 1000 * n)) = (0, 3) := by
    intro n h1 h2
    refine fin_beyond ?_
    rcases w64_three (x := c - 1000 * n) (by omega) (by omega) with ⟨e, _⟩ | ⟨e, _⟩ | ⟨e, _⟩ <;> rw [e] <;> omega
  intro t
  induction t with
  | nil =>
    intro n last _ h1 h2
    simp only [List.length_nil] at h1 h2
    exact hf n (by omega) (by omega)
  | cons s t ih =>
    intro n last hg h1 h2
    simp only [List.length_cons] at h1 h2
    obtain ⟨g1, g2, g3, g4, g5⟩ := hg
    unfold sm
    split
    · exact hf n (by omega) (by omega)
    · rename_i c1
      rw [if_neg (by rcases w64_three (x := c - ((s.f0 + 1) * 86400000 - h) - 1000 * n) (by omega) (by omega) with ⟨e, _⟩ | ⟨e, _⟩ | ⟨e, _⟩ <;> rw [e] at c1 ⊢ <;> omega)]
      exact ih (n + s.f1) s.f0 g5 (by omega) (by omega)

theorem instant_ok {x : Int} (h1 : -345600000000000 ≤ x) (h2 : x < 345600086400000) : ephemerisref2_InstantErr.f x = some 0 := by
  unfold ephemerisref2_InstantErr.f; rw [if_neg (by omega), if_neg (by omega)]
theorem instant_bad {x : Int} (h : x < -345600000000000 ∨ x ≥ 345600086400000) : ephemerisref2_InstantErr.f x = some 3 := by
  unfold ephemerisref2_InstantErr.f
  split
  · rfl
  · rw [if_pos (by omega)]

/-- Behind the leap that spreads over the number, nothing more is found. -/
theorem law_rest (l : List S31) (h c x7 x8 x9 x10 n want : Int) (is b : Bool) (hl : l.length ≤ 60) (hh1 : 1000 ≤ h) (hh2 : h ≤ 43200000) (hn1 : -60 ≤ n) (hn2 : n ≤ 60)
    (hend : ∀ (i : Int) k, (l.length : Int) ≤ i → ephemerislaw2_SmearSmears.l0 (k + 1) h c x7 x8 x9 x10 n want is l (l.length : Int) i = some b) :
    ∀ (t : List S31) (i last : Int), 0 ≤ i → l.drop i.toNat = t → good last t → c < (last + 3) * 86400000 - h + 1000 * n →
    Ev (fun k => ephemerislaw2_SmearSmears.l0 k h c x7 x8 x9 x10 n want is l (l.length : Int) i) b := by
  intro t
  induction t with
  | nil =>
    intro i last h0 hd hg hc
    exact ev_some 1 fun k => hend i k (drop_nil h0 hd)
  | cons s t ih =>
    intro i last h0 hd hg hc
    obtain ⟨hlt, hs, ht⟩ := drop_cons z31 h0 hd
    have hs' : rd_T31 l i = s := hs
    obtain ⟨g1, g2, g3, g4, g5⟩ := hg
    have a1 : wrap64 (s.f0 + 1) = s.f0 + 1 := w64 (by omega) (by omega)
    have a2 : wrap64 ((s.f0 + 1) * 86400000) = (s.f0 + 1) * 86400000 := w64 (by omega) (by omega)
    have a3 : wrap64 ((s.f0 + 1) * 86400000 - h) = (s.f0 + 1) * 86400000 - h := w64 (by omega) (by omega)
    have a4 : wrap64 (1000 * n) = 1000 * n := w64 (by omega) (by omega)
    have a5 : wrap64 ((s.f0 + 1) * 86400000 - h + 1000 * n) = (s.f0 + 1) * 86400000 - h + 1000 * n := w64 (by omega) (by omega)
    have a6 : wrap64 (2 * h) = 2 * h := w64 (by omega) (by omega)
    have a7 : wrap64 (1000 * s.f1) = 1000 * s.f1 := w64 (by omega) (by omega)
    have a8 : wrap64 (2 * h + 1000 * s.f1) = 2 * h + 1000 * s.f1 := w64 (by omega) (by omega)
    have a9 : wrap64 (i + 1) = i + 1 := w64 (by omega) (by omega)
    have a10 : wrap64 ((s.f0 + 1) * 86400000 - h + 1000 * n + (2 * h + 1000 * s.f1)) = (s.f0 + 1) * 86400000 - h + 1000 * n + (2 * h + 1000 * s.f1) := w64 (by omega) (by omega)
    refine ev_step 2 (f := fun k => ephemerislaw2_SmearSmears.l0 k h c x7 x8 x9 x10 n want is l (l.length : Int) (i + 1)) ?_ (ih (i + 1) s.f0 (by omega) ht g5 (by omega))
    intro k
    rw [ephemerislaw2_SmearSmears.l0]
    rw [if_pos hlt, if_pos h0, if_pos hlt, hs', a1, a2, a3, a4, a5, if_neg (show ¬ c ≥ (s.f0 + 1) * 86400000 - h + 1000 * n by omega), ephemerislaw2_SmearSmears.j5]
    rw [if_neg (by decide), a4, a5, a6, a7, a8, a9, a10, if_neg (by omega)]

theorem law_loop (l : List S31) (h c x7 x8 x9 x10 : Int) (hl : l.length ≤ 60) (hh1 : 1000 ≤ h) (hh2 : h ≤ 43200000) (hc1 : -400000000000000 ≤ c) (hc2 : c ≤ 400000000000000)
    (ho : (x9, x10) = if x8 = 0 then (wrap64 (x7 - c), 0) else (0, x8)) :
    ∀ (t : List S31) (i n last : Int), 0 ≤ i → i ≤ l.length → l.drop i.toNat = t → good last t → -i ≤ n → n ≤ i → sm h c n t = (x7, x8) →
    Ev (fun k => ephemerislaw2_SmearSmears.l0 k h c x7 x8 x9 x10 n 0 false l (l.length : Int) i) true := by
  have hend : ∀ (i n : Int) (k : Nat), -60 ≤ n → n ≤ 60 → fin (wrap64 (c - 1000 * n)) = (x7, x8) → (l.length : Int) ≤ i → ephemerislaw2_SmearSmears.l0 (k + 1) h c x7 x8 x9 x10 n 0 false l (l.length : Int) i = some true := by
    intro i n k hn1 hn2 hf hi
    rw [ephemerislaw2_SmearSmears.l0, if_neg (by omega), if_neg (by decide)]
    have a1 : wrap64 (1000 * n) = 1000 * n := w64 (by omega) (by omega)
    have a2 : wrap64 (c - 1000 * n) = c - 1000 * n := w64 (by omega) (by omega)
    rw [a1]
    rw [a2] at hf ⊢
    unfold fin at hf
    split at hf
    · rename_i hv
      injection hf with e1 e2
      subst e1 e2
      rw [if_pos rfl] at ho
      injection ho with e3 e4
      subst e3 e4
      rw [instant_ok hv.1 hv.2]; simp
    · rename_i hv
      injection hf with e1 e2
      subst e1 e2
      rw [if_neg (by decide)] at ho
      injection ho with e3 e4
      subst e3 e4
      rw [instant_bad (by omega)]; simp
  intro t
  induction t with
  | nil =>
    intro i n last h0 hil hd hg hn1 hn2 hsm
    have hle := drop_nil h0 hd
    exact ev_some 1 fun k => hend i n k (by omega) (by omega) hsm hle
  | cons s t ih =>
    intro i n last h0 hil hd hg hn1 hn2 hsm
    obtain ⟨hlt, hs, ht⟩ := drop_cons z31 h0 hd
    have hs' : rd_T31 l i = s := hs
    obtain ⟨g1, g2, g3, g4, g5⟩ := hg
    have a1 : wrap64 (s.f0 + 1) = s.f0 + 1 := w64 (by omega) (by omega)
    have a2 : wrap64 ((s.f0 + 1) * 86400000) = (s.f0 + 1) * 86400000 := w64 (by omega) (by omega)
    have a3 : wrap64 ((s.f0 + 1) * 86400000 - h) = (s.f0 + 1) * 86400000 - h := w64 (by omega) (by omega)
    have a4 : wrap64 (1000 * n) = 1000 * n := w64 (by omega) (by omega)
    have a5 : wrap64 ((s.f0 + 1) * 86400000 - h + 1000 * n) = (s.f0 + 1) * 86400000 - h + 1000 * n := w64 (by omega) (by omega)
    have a6 : wrap64 (2 * h) = 2 * h := w64 (by omega) (by omega)
    have a7 : wrap64 (1000 * s.f1) = 1000 * s.f1 := w64 (by omega) (by omega)
    have a8 : wrap64 (2 * h + 1000 * s.f1) = 2 * h + 1000 * s.f1 := w64 (by omega) (by omega)
    have a9 : wrap64 (i + 1) = i + 1 := w64 (by omega) (by omega)
    have a10 : wrap64 ((s.f0 + 1) * 86400000 - h + 1000 * n + (2 * h + 1000 * s.f1)) = (s.f0 + 1) * 86400000 - h + 1000 * n + (2 * h + 1000 * s.f1) := w64 (by omega) (by omega)
    have a11 : wrap64 (c - ((s.f0 + 1) * 86400000 - h) - 1000 * n) = c - ((s.f0 + 1) * 86400000 - h) - 1000 * n := w64 (by omega) (by omega)
    have a12 : wrap64 (n + s.f1) = n + s.f1 := w64 (by omega) (by omega)
    unfold sm at hsm
    rw [a11] at hsm
    by_cases c1 : c - ((s.f0 + 1) * 86400000 - h) - 1000 * n < 0
    · rw [if_pos c1] at hsm
      refine law_rest l h c x7 x8 x9 x10 n 0 false true hl hh1 hh2 (by omega) (by omega) (fun i k hi => hend i n k (by omega) (by omega) hsm hi) (s :: t) i (s.f0 - 2) h0 hd ⟨g1, g2, g3, by omega, g5⟩ (by omega)
    rw [if_neg c1] at hsm
    by_cases c2 : c - ((s.f0 + 1) * 86400000 - h) - 1000 * n < 2 * h + 1000 * s.f1
    · rw [if_pos c2] at hsm
      injection hsm with e1 e2
      subst e2
      generalize hy : c - ((s.f0 + 1) * 86400000 - h) - 1000 * n = y at *
      have b1 : 0 ≤ y * 2 * h := Int.mul_nonneg (by omega) (by omega)
      have b2 : y * 2 * h ≤ 172802000 * 43200000 := Int.mul_le_mul (by omega) (by omega) (by omega) (by omega)
      have b3 : wrap64 (y * 2 * h) = y * 2 * h := w64 (by omega) (by omega)
      have b4 : 0 ≤ Int.tdiv (y * 2 * h) (2 * h + 1000 * s.f1) := Int.tdiv_nonneg b1 (by omega)
      have b5 : Int.tdiv (y * 2 * h) (2 * h + 1000 * s.f1) ≤ 2 * h := by
        rw [Int.tdiv_eq_ediv_of_nonneg b1]
        have : y * 2 * h < (2 * h + 1) * (2 * h + 1000 * s.f1) := by
          have q1 : y * 2 * h = y * (2 * h) := by rw [Int.mul_assoc]
          have q2 : y * (2 * h) ≤ (2 * h + 1000 * s.f1) * (2 * h) := Int.mul_le_mul_of_nonneg_right (by omega) (by omega)
          have q3 : (2 * h + 1) * (2 * h + 1000 * s.f1) = (2 * h + 1000 * s.f1) * (2 * h) + (2 * h + 1000 * s.f1) := by rw [Int.add_mul, Int.one_mul, Int.mul_comm (2 * h)]
          omega
        have := Int.ediv_lt_of_lt_mul (show (0 : Int) < 2 * h + 1000 * s.f1 by omega) this
        omega
      generalize hz : Int.tdiv (y * 2 * h) (2 * h + 1000 * s.f1) = z at *
      have d0 : wrap64 (y * 2) = y * 2 := w64 (by omega) (by omega)
      have d1 : wrap64 z = z := w64 (by omega) (by omega)
      have d2 : wrap64 ((s.f0 + 1) * 86400000 - h + z) = (s.f0 + 1) * 86400000 - h + z := w64 (by omega) (by omega)
      have d3 : wrap64 (c - ((s.f0 + 1) * 86400000 - h + 1000 * n)) = y := (w64 (by omega) (by omega)).trans (by omega)
      have hy0 : wrap64 (y) = y := w64 (by omega) (by omega)
      refine ev_step 2 (f := fun k => ephemerislaw2_SmearSmears.l0 k h c x7 0 x9 x10 n x7 true l (l.length : Int) (i + 1)) ?_
        (law_rest l h c x7 0 x9 x10 n x7 true true hl hh1 hh2 (by omega) (by omega) ?_ t (i + 1) s.f0 (by omega) ht g5 (by omega))
      · intro k
        rw [ephemerislaw2_SmearSmears.l0]
        rw [if_pos hlt, if_pos h0, if_pos hlt, hs', a1, a2, a3, a4, a5, a6, a7, a8, a10, if_pos (show c ≥ (s.f0 + 1) * 86400000 - h + 1000 * n by omega), ephemerislaw2_SmearSmears.j5]
        rw [if_pos (by simp; omega), if_neg (show ¬(2 * h + 1000 * s.f1 = 0) by omega), a4, a5, a10, if_neg (by omega), d3, d0, b3, hz, d1, d2, a9, ← e1]
      · intro j k hj
        rw [ephemerislaw2_SmearSmears.l0, if_neg (by omega), if_pos rfl, instant_ok (by omega) (by omega)]
        rw [if_pos rfl] at ho
        injection ho with e3 e4
        subst e3 e4
        simp
    · rw [if_neg c2] at hsm
      refine ev_step 2 (f := fun k => ephemerislaw2_SmearSmears.l0 k h c x7 x8 x9 x10 (n + s.f1) 0 false l (l.length : Int) (i + 1)) ?_ (ih (i + 1) (n + s.f1) s.f0 (by omega) (by omega) ht g5 (by omega) (by omega) hsm)
      intro k
      rw [ephemerislaw2_SmearSmears.l0]
      rw [if_pos hlt, if_pos h0, if_pos hlt, hs', a1, a2, a3, a4, a5, a6, a7, a8, a10, if_pos (show c ≥ (s.f0 + 1) * 86400000 - h + 1000 * n by omega), ephemerislaw2_SmearSmears.j5]
      rw [if_neg (by simp; omega), a4, a5, a10, if_pos (by omega), a12, a9]

theorem works_ev : Ev (fun k => ephemerislaw2_smearWorks.f k) true := Ev.of ephemerislaw2_smearWorks.mono (k := 20) (by decide +kernel)

theorem SmearSmears : PureX := by
  intro l h c hl hh hc
  refine ev_k ?_
  unfold ephemerislaw2_SmearSmears.f
  refine ev_bind works_ev ?_
  simp only [if_true]
  refine ev_bind (smear_ev l h c) ?_
  refine ev_bind (offset_ev l h c) ?_
  refine ev_bind (leapsErr_ev l) ?_
  -- the error of the table and of half
  have key : Ev (fun k => ephemerislaw2_SmearSmears.j1 k l h c (smear l h c).1 (smear l h c).2 (if (smear l h c).2 = 0 then (wrap64 ((smear l h c).1 - c), (0 : Int)) else (0, (smear l h c).2)).1 (if (smear l h c).2 = 0 then (wrap64 ((smear l h c).1 - c), (0 : Int)) else (0, (smear l h c).2)).2 (cerr l h)) true := by
    refine ev_step 1 (f := fun k => (smear_Check.f k l h).bind fun t125 => (if t125 = cerr l h then (if cerr l h = 0 then ((ephemerislaw2_beyond.f c 400000000000000).bind fun t126 => (ephemerislaw2_SmearSmears.j2 k l h c (smear l h c).1 (smear l h c).2 (if (smear l h c).2 = 0 then (wrap64 ((smear l h c).1 - c), (0 : Int)) else (0, (smear l h c).2)).1 (if (smear l h c).2 = 0 then (wrap64 ((smear l h c).1 - c), (0 : Int)) else (0, (smear l h c).2)).2 (cerr l h) t126)) else (ephemerislaw2_SmearSmears.j2 k l h c (smear l h c).1 (smear l h c).2 (if (smear l h c).2 = 0 then (wrap64 ((smear l h c).1 - c), (0 : Int)) else (0, (smear l h c).2)).1 (if (smear l h c).2 = 0 then (wrap64 ((smear l h c).1 - c), (0 : Int)) else (0, (smear l h c).2)).2 (cerr l h) false)) else (some false))) (fun k => by rw [ephemerislaw2_SmearSmears.j1]) ?_
    refine ev_bind (smear_Check_ev l h) ?_
    simp only [if_true]
    by_cases e : cerr l h = 0
    · obtain ⟨hl60, hg, h1, h2⟩ := cerr_zero e
      simp only [e, if_true]
      have hb : ephemerislaw2_beyond.f c 400000000000000 = some (decide (c < -400000000000000 ∨ c > 400000000000000)) := by
        unfold ephemerislaw2_beyond.f
        rw [show wrap64 (-400000000000000) = -400000000000000 from w64 (by omega) (by omega)]
        by_cases c1 : c < -400000000000000 <;> simp [c1]
      simp only [hb, Option.bind_some]
      have hsm : smear l h c = sm h c 0 l := by unfold smear; rw [if_pos e]
      by_cases cb : c < -400000000000000 ∨ c > 400000000000000
      · have := sm_beyond h c h1 h2 cb hc l 0 (-5000000) hg (by omega) (by omega)
        rw [hsm, this]
        refine ev_some 2 fun k => ?_
        simp [ephemerislaw2_SmearSmears.j2, ephemerislaw2_SmearSmears.j3, cb]
      · refine ev_step 2 (f := fun k => ephemerislaw2_SmearSmears.l0 k h c (smear l h c).1 (smear l h c).2 (if (smear l h c).2 = 0 then (wrap64 ((smear l h c).1 - c), (0 : Int)) else (0, (smear l h c).2)).1 (if (smear l h c).2 = 0 then (wrap64 ((smear l h c).1 - c), (0 : Int)) else (0, (smear l h c).2)).2 0 0 false l (l.length : Int) 0) (fun k => ?_)
          (law_loop l h c _ _ _ _ hl60 h1 h2 (by omega) (by omega) rfl l 0 0 (-5000000) (by omega) (by omega) rfl hg (by omega) (by omega) (by rw [hsm]))
        simp [ephemerislaw2_SmearSmears.j2, ephemerislaw2_SmearSmears.j3, cb]
    · simp only [e, if_false]
      have hsm : smear l h c = (0, cerr l h) := by unfold smear; rw [if_neg e]
      rw [hsm]
      refine ev_some 2 fun k => ?_
      simp [ephemerislaw2_SmearSmears.j2, ephemerislaw2_SmearSmears.j3, e]
  generalize smear l h c = q at key ⊢
  generalize (if q.2 = 0 then (wrap64 (q.1 - c), (0 : Int)) else (0, q.2)) = q2 at key ⊢
  unfold cerr at key
  by_cases c0 : terr l = 0
  · simp only [c0, if_true] at key ⊢
    by_cases c1 : h < 1000
    · simp only [c1, if_true, true_or] at key ⊢
      exact ev_step 1 (fun k => by simp only [ephemerislaw2_SmearSmears.j0]; rfl) key
    · by_cases c2 : h > 43200000
      · simp only [c1, c2, if_true, if_false, or_true, decide_true] at key ⊢
        exact ev_step 1 (fun k => by simp only [ephemerislaw2_SmearSmears.j0]; rfl) key
      · simp only [c1, c2, if_false, or_self, decide_false] at key ⊢
        exact ev_step 1 (fun k => by simp only [ephemerislaw2_SmearSmears.j0]; rfl) key
  · simp only [c0, if_false] at key ⊢
    exact ev_step 1 (fun k => by simp only [ephemerislaw2_SmearSmears.j0]; rfl) key

end Go.Proofs.Ytcmgfhfnfkelfaa.Pure
