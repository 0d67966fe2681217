/- ChronFits: Fits tells whether the days satisfy the bounds, with the errors of the document; for every n, bounds and days. -/
import Derived.Test.YtblidfmhlhhmkaaChronFitsn11
import Derived.Test.YtblidfmhlhhmkaaChronFitsn13
namespace Go.Proofs.Ytblidfmhlhhmkaa.Pure
open Go.RowKit YtblidfmhlhhmkaaW.PrintWords YtblidfmhlhhmkaaW.PrintLast YtblidfmhlhhmkaaW.PrintMore Opn PAll Base ChrA
set_option linter.unusedVariables false
set_option linter.unusedSimpArgs false
theorem works_ev : Ev (fun k => ephemerislaw2_chronWorks.f k) true := Ev.of ephemerislaw2_chronWorks.mono (k := 200) (by decide +kernel)
theorem beyond_at (d : Int) : ephemerislaw2_beyond.f d 1000000000 = some (decide (d < -1000000000 ∨ d > 1000000000)) := by
 unfold ephemerislaw2_beyond.f
 rw [show wrap64 (-1000000000) = -1000000000 by decide +kernel]
 by_cases c : d < -1000000000
 ·rw [if_pos c]; simp [c]
 ·rw [if_neg c]; simp [c]
def far (d : Int) : Bool := decide (d < -1000000000 ∨ d > 1000000000)
def anyFar : List Int → Bool
 | [] => false
 | d :: t => if far d then true else anyFar t
def sat (D : List Int) (b : S31) : Bool := decide (b.f2 ≤ rd D b.f1 - rd D b.f0 ∧ rd D b.f1 - rd D b.f0 ≤ b.f3)
def sats (D : List Int) : List S31 → Bool
 | [] => true
 | b :: t => if sat D b then sats D t else false
theorem anyFar_no : ∀ {l : List Int}, anyFar l = false → ∀ d ∈ l, -1000000000 ≤ d ∧ d ≤ 1000000000
 | [], _, d, hd => by cases hd
 | x :: t, h, d, hd => by
  unfold anyFar at h
  by_cases c : far x = true
  ·rw [if_pos c] at h; cases h
  ·rw [if_neg c] at h
   rcases List.mem_cons.1 hd with rfl | hd
   ·simp only [far, decide_eq_true_eq] at c; omega
   ·exact anyFar_no h d hd
theorem rd_in {D : List Int} (h : ∀ d ∈ D, -1000000000 ≤ d ∧ d ≤ 1000000000) (i : Int) : -1000000000 ≤ rd D i ∧ rd D i ≤ 1000000000 := by
 unfold rd
 by_cases c : i.toNat < D.length
 ·rw [List.getD_eq_getElem?_getD, List.getElem?_eq_getElem c]; exact h _ (List.getElem_mem c)
 ·rw [List.getD_eq_getElem?_getD, List.getElem?_eq_none (by omega)]; simp
theorem fits_l1 {n : Int} {l : List S31} (G : GoodB n l) {D : List Int} (hD : (D.length : Int) = n) (hr : ∀ d ∈ D, -1000000000 ≤ d ∧ d ≤ 1000000000) : ∀ (t : List S31) (i : Int), 0 ≤ i → l.drop i.toNat = t →
  Ev (fun k => chron_Fits.l1 k D l (l.length : Int) i) (sats D t, 0) := by
 have hl := G.len
 intro t
 induction t with
 | nil =>
  intro i h0 hd
  have hle := drop_nil h0 hd
  exact ev_some 1 fun k => by rw [chron_Fits.l1, if_neg (by omega)]; rfl
 | cons s t ih =>
  intro i h0 hd
  obtain ⟨hlt, hs, ht⟩ := drop_cons z31 h0 hd
  have hs' : rd_T31 l i = s := hs
  have a9 : wrap64 (i + 1) = i + 1 := w64 (by omega) (by omega)
  obtain ⟨o1, o2, o3, o4, o5, o6, o7, o8⟩ := G.ok s (drop_mem hd)
  have r0 := rd_in hr s.f0
  have r1 := rd_in hr s.f1
  have hw : wrap64 (rd D s.f1 - rd D s.f0) = rd D s.f1 - rd D s.f0 := w64 (by omega) (by omega)
  have hun : ∀ k, chron_Fits.l1 (k + 1) D l (l.length : Int) i = (if sat D s = true then chron_Fits.l1 k D l (l.length : Int) (i + 1) else some (false, 0)) := by
   intro k
   rw [chron_Fits.l1, if_pos hlt, if_pos h0, if_pos hlt, hs', if_pos o3, if_pos (by omega), if_pos o1, if_pos (by omega), hw, a9]
   unfold sat
   by_cases c1 : rd D s.f1 - rd D s.f0 < s.f2
   ·rw [if_pos c1, if_neg (by simp only [decide_eq_true_eq]; omega)]
   ·by_cases c2 : rd D s.f1 - rd D s.f0 > s.f3
    ·rw [if_neg c1, if_pos c2, if_neg (by simp only [decide_eq_true_eq]; omega)]
    ·rw [if_neg c1, if_neg c2, if_pos (by simp only [decide_eq_true_eq]; omega)]
  unfold sats
  by_cases c : sat D s = true
  ·rw [if_pos c]
   exact ev_step 1 (f := fun k => chron_Fits.l1 k D l (l.length : Int) (i + 1)) (fun k => by rw [hun, if_pos c]) (ih (i + 1) (by omega) ht)
  ·rw [if_neg c]
   exact ev_some 1 fun k => by rw [hun, if_neg c]
theorem fits_l0 {n : Int} {l : List S31} (G : GoodB n l) {D : List Int} (hD : (D.length : Int) = n) : ∀ (t : List Int) (i : Int), 0 ≤ i → D.drop i.toNat = t → (anyFar t = false → anyFar D = false) →
  Ev (fun k => chron_Fits.l0 k l D D (D.length : Int) i) (if anyFar t then (false, 3) else (sats D l, 0)) := by
 have hn := G.n2
 intro t
 induction t with
 | nil =>
  intro i h0 hd hf
  have hle := drop_nil h0 hd
  refine ev_step 1 (f := fun k => chron_Fits.l1 k D l (l.length : Int) 0) (fun k => by rw [chron_Fits.l0, if_neg (by omega)]) ?_
  exact fits_l1 G hD (anyFar_no (hf rfl)) l 0 (by omega) rfl
 | cons s t ih =>
  intro i h0 hd hf
  obtain ⟨hlt, hs, ht⟩ := drop_cons 0 h0 hd
  have hs' : rd D i = s := hs
  have a9 : wrap64 (i + 1) = i + 1 := w64 (by omega) (by omega)
  have hun : ∀ k, chron_Fits.l0 (k + 1) l D D (D.length : Int) i = (if far s = true then some (false, 3) else chron_Fits.l0 k l D D (D.length : Int) (i + 1)) := by
   intro k
   rw [chron_Fits.l0, if_pos hlt, if_pos h0, if_pos hlt, hs', a9]
   unfold far
   by_cases c1 : s < -1000000000
   ·rw [if_pos c1, if_pos (by simp only [decide_eq_true_eq]; omega)]
   ·by_cases c2 : s > 1000000000
    ·rw [if_neg c1, if_pos c2, if_pos (by simp only [decide_eq_true_eq]; omega)]
    ·rw [if_neg c1, if_neg c2, if_neg (by simp only [decide_eq_true_eq]; omega)]
  by_cases c : far s = true
  ·have e : anyFar (s :: t) = true := by unfold anyFar; rw [if_pos c]
   rw [if_pos e]
   exact ev_some 1 fun k => by rw [hun, if_pos c]
  ·have e : anyFar (s :: t) = anyFar t := by rw [anyFar, if_neg c]
   rw [e] at hf ⊢
   exact ev_step 1 (f := fun k => chron_Fits.l0 k l D D (D.length : Int) (i + 1)) (fun k => by rw [hun, if_neg c]) (ih (i + 1) (by omega) ht hf)
def ft (n : Int) (l : List S31) (D : List Int) : Bool × Int := if ce n l = 0 then (if (D.length : Int) = n then (if anyFar D then (false, 3) else (sats D l, 0)) else (false, 8)) else (false, ce n l)
theorem fits_ev (n : Int) (l : List S31) (D : List Int) : Ev (fun k => chron_Fits.f k n l D) (ft n l D) := by
 unfold chron_Fits.f
 refine ev_bind (check_ev n l) ?_
 unfold ft
 by_cases c : ce n l = 0
 ·simp only [if_pos c]
  by_cases c2 : (D.length : Int) = n
  ·simp only [if_pos c2]; exact fits_l0 (ce_zero c) c2 D 0 (by omega) rfl id
  ·simp only [if_neg c2]; exact ⟨0, fun _ _ => rfl⟩
 ·simp only [if_neg c]; exact ⟨0, fun _ _ => rfl⟩
theorem law_l1 {n : Int} {l : List S31} (G : GoodB n l) {D : List Int} (hD : (D.length : Int) = n) (hr : ∀ d ∈ D, -1000000000 ≤ d ∧ d ≤ 1000000000) (is : Bool) : ∀ (t : List S31) (i : Int) (want : Bool), 0 ≤ i → l.drop i.toNat = t →
  Ev (fun k => ephemerislaw2_ChronFits.l1 k D is 0 want l (l.length : Int) i) (is == (want && sats D t)) := by
 have hl := G.len
 intro t
 induction t with
 | nil =>
  intro i want h0 hd
  have hle := drop_nil h0 hd
  exact ev_some 1 fun k => by rw [ephemerislaw2_ChronFits.l1, if_neg (by omega), if_pos rfl]; simp [sats]
 | cons s t ih =>
  intro i want h0 hd
  obtain ⟨hlt, hs, ht⟩ := drop_cons z31 h0 hd
  have hs' : rd_T31 l i = s := hs
  have a9 : wrap64 (i + 1) = i + 1 := w64 (by omega) (by omega)
  obtain ⟨o1, o2, o3, o4, o5, o6, o7, o8⟩ := G.ok s (drop_mem hd)
  have r0 := rd_in hr s.f0
  have r1 := rd_in hr s.f1
  have hw : wrap64 (rd D s.f0 + s.f2) = rd D s.f0 + s.f2 := w64 (by omega) (by omega)
  have hw2 : wrap64 (rd D s.f0 + s.f3) = rd D s.f0 + s.f3 := w64 (by omega) (by omega)
  have hun : ∀ k, ephemerislaw2_ChronFits.l1 (k + 1) D is 0 want l (l.length : Int) i = ephemerislaw2_ChronFits.l1 k D is 0 (want && sat D s) l (l.length : Int) (i + 1) := by
   intro k
   rw [ephemerislaw2_ChronFits.l1, if_pos hlt, if_pos h0, if_pos hlt, hs', a9]
   cases want with
   | false => rfl
   | true =>
    rw [if_pos rfl, if_pos o1, if_pos (by omega), if_pos o3, if_pos (by omega), hw, hw2]
    unfold sat
    by_cases c1 : rd D s.f0 + s.f2 ≤ rd D s.f1
    ·rw [if_pos c1, Bool.true_and]
     congr 1
     exact decide_eq_decide.2 (by omega)
    ·rw [if_neg c1, Bool.true_and, decide_eq_false (by omega)]
  refine ev_step 1 (f := fun k => ephemerislaw2_ChronFits.l1 k D is 0 (want && sat D s) l (l.length : Int) (i + 1)) hun ?_
  have e : (is == (want && sats D (s :: t))) = (is == (want && sat D s && sats D t)) := by
   rw [show sats D (s :: t) = if sat D s then sats D t else false from rfl]
   cases sat D s <;> simp
  rw [e]
  exact ih (i + 1) _ (by omega) ht
def fx (x : Int) (t : List Int) : Int := if x = 0 then (if anyFar t then 3 else 0) else x
theorem law_l0 (n : Int) (l : List S31) (D : List Int) (hD : D.length ≤ 9223372036854775807) (is : Bool) (e : Int) (b : Bool) : ∀ (t : List Int) (i x : Int), 0 ≤ i → D.drop i.toNat = t →
  (fx x t = 0 → Ev (fun k => ephemerislaw2_ChronFits.l1 k D is e true l (l.length : Int) 0) b) → (fx x t ≠ 0 → b = if e = fx x t then !is else false) →
  Ev (fun k => ephemerislaw2_ChronFits.l0 k l D is e x D (D.length : Int) i) b := by
 intro t
 induction t with
 | nil =>
  intro i x h0 hd hA hB
  have hle := drop_nil h0 hd
  have e0 : fx x [] = x := by unfold fx; by_cases c : x = 0 <;> simp [c, anyFar]
  rw [e0] at hA hB
  by_cases c : x = 0
  ·subst c
   exact ev_step 1 (f := fun k => ephemerislaw2_ChronFits.l1 k D is e true l (l.length : Int) 0) (fun k => by rw [ephemerislaw2_ChronFits.l0, if_neg (by omega), if_pos rfl]) (hA rfl)
  ·rw [hB c]
   exact ev_some 1 fun k => by
    rw [ephemerislaw2_ChronFits.l0, if_neg (by omega), if_neg c]
    by_cases c2 : e = x
    ·rw [if_pos c2, if_pos c2]
    ·rw [if_neg c2, if_neg c2]
 | cons s t ih =>
  intro i x h0 hd hA hB
  obtain ⟨hlt, hs, ht⟩ := drop_cons 0 h0 hd
  have hs' : rd D i = s := hs
  have a9 : wrap64 (i + 1) = i + 1 := w64 (by omega) (by omega)
  have hun : ∀ k, ephemerislaw2_ChronFits.l0 (k + 1) l D is e x D (D.length : Int) i = ephemerislaw2_ChronFits.l0 k l D is e (if x = 0 ∧ far s = true then 3 else x) D (D.length : Int) (i + 1) := by
   intro k
   rw [ephemerislaw2_ChronFits.l0, if_pos hlt, if_pos h0, if_pos hlt, hs', a9, beyond_at, Option.bind_some]
   by_cases c : x = 0
   ·rw [if_pos c]
    by_cases c2 : far s = true
    ·rw [if_pos (show decide (s < -1000000000 ∨ s > 1000000000) = true from c2), if_pos ⟨c, c2⟩]
    ·rw [if_neg (show ¬ decide (s < -1000000000 ∨ s > 1000000000) = true from c2), if_neg (fun h => c2 h.2)]
   ·rw [if_neg c, if_neg (fun h => c h.1)]
  refine ev_step 1 (f := fun k => ephemerislaw2_ChronFits.l0 k l D is e (if x = 0 ∧ far s = true then 3 else x) D (D.length : Int) (i + 1)) hun ?_
  have e1 : fx (if x = 0 ∧ far s = true then 3 else x) t = fx x (s :: t) := by
   unfold fx
   rw [anyFar]
   by_cases c : x = 0
   ·by_cases c2 : far s = true
    ·simp [c, c2]
    ·simp [c, c2]
   ·simp [c]
  exact ih (i + 1) _ (by omega) ht (by rw [e1]; exact hA) (by rw [e1]; exact hB)
theorem ChronFits : PureX := by
 intro n l D _ _ hD
 have hn := hD.1
 apply ev_k
 unfold ephemerislaw2_ChronFits.f
 refine ev_bind works_ev ?_
 simp only [if_true]
 refine ev_bind (fits_ev n l D) (ev_bind (err_ev n l) ?_)
 unfold ft
 have fx1 : ∀ x, x ≠ 0 → ∀ t, fx x t = x := fun x hx t => by unfold fx; rw [if_neg hx]
 have go : ∀ (is : Bool) (e x : Int) (b : Bool), (b = true → False) → Ev (fun k => ephemerislaw2_ChronFits.l0 k l D is e x D (D.length : Int) 0) true → Ev (fun k => ephemerislaw2_ChronFits.j0 k l D is e x b) true := fun is e x b hb h =>
  ev_step 2 (f := fun k => ephemerislaw2_ChronFits.l0 k l D is e x D (D.length : Int) 0) (fun k => by rw [ephemerislaw2_ChronFits.j0, if_neg hb, ephemerislaw2_ChronFits.j1]) h
 by_cases c : ce n l = 0
 ·simp only [c, if_true]
  by_cases c2 : (D.length : Int) = n
  ·simp only [c2, if_true]
   refine go _ _ _ _ (by simp) ?_
   by_cases c3 : anyFar D = true
   ·simp only [c3, if_true]
    exact law_l0 n l D hn false 3 true D 0 0 (by omega) rfl (fun h => by unfold fx at h; rw [if_pos rfl, if_pos c3] at h; omega) (fun _ => by unfold fx; rw [if_pos rfl, if_pos c3]; rfl)
   ·simp only [c3, if_false, Bool.false_eq_true]
    refine law_l0 n l D hn (sats D l) 0 true D 0 0 (by omega) rfl (fun _ => ?_) (fun h => by unfold fx at h; rw [if_pos rfl, if_neg c3] at h; omega)
    have := law_l1 (ce_zero c) c2 (anyFar_no (by simpa using c3)) (sats D l) l 0 true (by omega) rfl
    simpa using this
  ·simp only [c2, if_false]
   refine ev_step 2 (f := fun k => ephemerislaw2_ChronFits.l0 k l D false 8 8 D (D.length : Int) 0) (fun k => by rw [ephemerislaw2_ChronFits.j0, if_pos (by simpa using c2), ephemerislaw2_ChronFits.j1]) ?_
   exact law_l0 n l D hn false 8 true D 0 8 (by omega) rfl (fun h => by rw [fx1 8 (by omega)] at h; omega) (fun _ => by rw [fx1 8 (by omega)]; rfl)
 ·simp only [c, if_false]
  refine go _ _ _ _ (by simp) ?_
  exact law_l0 n l D hn false (ce n l) true D 0 (ce n l) (by omega) rfl (fun h => by rw [fx1 _ c] at h; exact absurd h c) (fun _ => by rw [fx1 _ c, if_pos rfl]; rfl)
end Go.Proofs.Ytblidfmhlhhmkaa.Pure
