/- Chronologies: what Check and ChronErr tell. -/
import Derived.Test.YtfbjpdiaicaagaaTopContradictn3
import Derived.Test.YtfbjpdiaicaagaaTopContradictn12
namespace Go.Proofs.Ytfbjpdiaicaagaa.ChrA
open Go.RowKit Go.Proofs.YtfbjpdiaicaagaaW.PrintWords Go.Proofs.YtfbjpdiaicaagaaW.PrintLast Go.Proofs.YtfbjpdiaicaagaaW.PrintMore Go.Proofs.Ytfbjpdiaicaagaa.Opn Go.Proofs.Ytfbjpdiaicaagaa.PAll Go.Proofs.Ytfbjpdiaicaagaa.Base
set_option linter.unusedVariables false
set_option linter.unusedSimpArgs false
/-- what a bound is told of -/
def be (n : Int) (b : S43) : Int := if b.f0 < 0 ∨ b.f0 ≥ n ∨ b.f1 < 0 ∨ b.f1 ≥ n ∨ b.f2 < -8000000 ∨ b.f3 > 8000000 then 3 else if b.f0 = b.f1 then 1 else if b.f2 > b.f3 then 9 else 0
def bes (n : Int) : List S43 → Int
  | [] => 0
  | b :: t => if be n b = 0 then bes n t else be n b
def ce (n : Int) (l : List S43) : Int := if n > 12 ∨ (l.length : Int) > 40 then 2 else if n < 1 then 8 else bes n l
/-- a bound that is in order -/
def Ok (n : Int) (b : S43) : Prop := 0 ≤ b.f0 ∧ b.f0 < n ∧ 0 ≤ b.f1 ∧ b.f1 < n ∧ -8000000 ≤ b.f2 ∧ b.f3 ≤ 8000000 ∧ b.f0 ≠ b.f1 ∧ b.f2 ≤ b.f3
/-- Bounds that are in order. -/
structure GoodB (n : Int) (l : List S43) : Prop where
  n1 : 1 ≤ n
  n2 : n ≤ 12
  len : l.length ≤ 40
  ok : ∀ b ∈ l, Ok n b
theorem check_loop (n : Int) (l : List S43) (hl : l.length ≤ 40) : ∀ (t : List S43) (i : Int), 0 ≤ i → l.drop i.toNat = t → Ev (fun k => chron_Check.l0 k n l (l.length : Int) i) (bes n t) := by
  intro t
  induction t with
  | nil =>
    intro i h0 hd
    have hle := drop_nil h0 hd
    exact ev_some 1 fun k => by rw [chron_Check.l0, if_neg (by omega)]; rfl
  | cons s t ih =>
    intro i h0 hd
    obtain ⟨hlt, hs, ht⟩ := drop_cons z43 h0 hd
    have hs' : rd_T43 l i = s := hs
    have a9 : wrap64 (i + 1) = i + 1 := w64 (by omega) (by omega)
    have hj : ∀ k, chron_Check.j2 (k + 1) n l (l.length : Int) i true s.f0 s.f1 s.f2 s.f3 = some 3 := fun k => by rw [chron_Check.j2, if_pos rfl]
    have hun : ∀ k, chron_Check.l0 (k + 2) n l (l.length : Int) i = (if be n s = 0 then chron_Check.l0 k n l (l.length : Int) (i + 1) else some (be n s)) := by
      intro k
      rw [chron_Check.l0, if_pos hlt, if_pos h0, if_pos hlt, hs', hj]
      unfold be
      by_cases c1 : s.f0 < 0
      · rw [if_pos c1, if_pos (Or.inl c1 : s.f0 < 0 ∨ s.f0 ≥ n ∨ s.f1 < 0 ∨ s.f1 ≥ n ∨ s.f2 < -8000000 ∨ s.f3 > 8000000)]; rfl
      by_cases c2 : s.f0 ≥ n
      · rw [if_neg c1, if_pos c2, if_pos (by omega : s.f0 < 0 ∨ s.f0 ≥ n ∨ s.f1 < 0 ∨ s.f1 ≥ n ∨ s.f2 < -8000000 ∨ s.f3 > 8000000)]; rfl
      by_cases c3 : s.f1 < 0
      · rw [if_neg c1, if_neg c2, if_pos c3, if_pos (by omega : s.f0 < 0 ∨ s.f0 ≥ n ∨ s.f1 < 0 ∨ s.f1 ≥ n ∨ s.f2 < -8000000 ∨ s.f3 > 8000000)]; rfl
      by_cases c4 : s.f1 ≥ n
      · rw [if_neg c1, if_neg c2, if_neg c3, if_pos c4, if_pos (by omega : s.f0 < 0 ∨ s.f0 ≥ n ∨ s.f1 < 0 ∨ s.f1 ≥ n ∨ s.f2 < -8000000 ∨ s.f3 > 8000000)]; rfl
      by_cases c5 : s.f2 < -8000000
      · rw [if_neg c1, if_neg c2, if_neg c3, if_neg c4, if_pos c5, if_pos (by omega : s.f0 < 0 ∨ s.f0 ≥ n ∨ s.f1 < 0 ∨ s.f1 ≥ n ∨ s.f2 < -8000000 ∨ s.f3 > 8000000)]; rfl
      rw [if_neg c1, if_neg c2, if_neg c3, if_neg c4, if_neg c5, chron_Check.j2, a9]
      by_cases c6 : s.f3 > 8000000
      · rw [if_pos (decide_eq_true c6), if_pos (by omega : s.f0 < 0 ∨ s.f0 ≥ n ∨ s.f1 < 0 ∨ s.f1 ≥ n ∨ s.f2 < -8000000 ∨ s.f3 > 8000000)]; rfl
      rw [if_neg (by simpa using c6), if_neg (by omega : ¬ (s.f0 < 0 ∨ s.f0 ≥ n ∨ s.f1 < 0 ∨ s.f1 ≥ n ∨ s.f2 < -8000000 ∨ s.f3 > 8000000))]
      by_cases c7 : s.f0 = s.f1
      · rw [if_pos c7, if_pos c7]; rfl
      rw [if_neg c7, if_neg c7]
      by_cases c8 : s.f2 > s.f3
      · rw [if_pos c8, if_pos c8]; rfl
      · rw [if_neg c8, if_neg c8]; rfl
    unfold bes
    by_cases c : be n s = 0
    · rw [if_pos c]
      exact ev_step 2 (f := fun k => chron_Check.l0 k n l (l.length : Int) (i + 1)) (fun k => by rw [hun, if_pos c]) (ih (i + 1) (by omega) ht)
    · rw [if_neg c]
      exact ev_some 2 fun k => by rw [hun, if_neg c]
theorem check_ev (n : Int) (l : List S43) : Ev (fun k => chron_Check.f k n l) (ce n l) := by
  have hd : ∀ k, chron_Check.f (k + 1) n l = if n > 12 ∨ (l.length : Int) > 40 then some 2 else if n < 1 then some 8 else chron_Check.l0 k n l (l.length : Int) 0 := by
    intro k
    rw [chron_Check.f, chron_Check.j0, chron_Check.j0]
    by_cases c1 : n > 12
    · rw [if_pos c1, if_pos rfl, if_pos (Or.inl c1)]
    · by_cases c2 : (l.length : Int) > 40
      · rw [if_neg c1, if_pos (decide_eq_true c2), if_pos (Or.inr c2)]
      · rw [if_neg c1, if_neg (by simpa using c2), if_neg (show ¬ (n > 12 ∨ (l.length : Int) > 40) by omega)]
  unfold ce
  by_cases c1 : n > 12 ∨ (l.length : Int) > 40
  · rw [if_pos c1]; exact ev_some 1 fun k => by rw [hd, if_pos c1]
  · rw [if_neg c1]
    by_cases c2 : n < 1
    · rw [if_pos c2]; exact ev_some 1 fun k => by rw [hd, if_neg c1, if_pos c2]
    · rw [if_neg c2]
      exact ev_step 1 (f := fun k => chron_Check.l0 k n l (l.length : Int) 0) (fun k => by rw [hd, if_neg c1, if_neg c2]) (check_loop n l (by omega) l 0 (by omega) rfl)
end Go.Proofs.Ytfbjpdiaicaagaa.ChrA
