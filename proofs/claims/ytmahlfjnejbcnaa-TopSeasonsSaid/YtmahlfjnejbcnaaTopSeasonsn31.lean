/- Check, SumErr and Bound of sums of terms. -/
import Derived.Test.YtmahlfjnejbcnaaTopSeasonsn3
import Derived.Test.YtmahlfjnejbcnaaTopSeasonsn19
namespace Go.Proofs.Ytmahlfjnejbcnaa.SumsT
open Go.RowKit YtmahlfjnejbcnaaW.PrintWords YtmahlfjnejbcnaaW.PrintLast YtmahlfjnejbcnaaW.PrintMore Opn PAll Base
set_option linter.unusedVariables false
set_option linter.unusedSimpArgs false
def bad (x : S71) : Prop := x.f0 < -1000000000 ∨ 1000000000 < x.f0 ∨ x.f1 < 0 ∨ 1000000000 ≤ x.f1 ∨ x.f2 < -4000000000000000 ∨ 4000000000000000 < x.f2
instance (x : S71) : Decidable (bad x) := by unfold bad; infer_instance
def ts : List S71 → Int
 | [] => 0
 | x :: t => if bad x then 3 else ts t
def hb (a b d : Int) : Prop := a < -1000000000 ∨ 1000000000 < a ∨ b < -4000000000000000 ∨ 4000000000000000 < b ∨ d < 0 ∨ 100000000 < d
instance (a b d : Int) : Decidable (hb a b d) := by unfold hb; infer_instance
def se (a b : Int) (l : List S71) (d : Int) : Int := if (l.length : Int) > 40 then 2 else if hb a b d then 3 else ts l
theorem sbeyond_at {a b : Int} (h0 : 0 ≤ b) (h1 : b ≤ 9223372036854775807) : series_beyond.f a b = some (decide (a < -b ∨ a > b)) := by
 unfold series_beyond.f
 rw [w64 (by omega) (by omega)]
 by_cases c : a < -b
 ·rw [if_pos c, decide_eq_true (Or.inl c)]
 ·rw [if_neg c]
  by_cases c2 : a > b
  ·rw [decide_eq_true c2, decide_eq_true (Or.inr c2)]
  ·rw [decide_eq_false c2, decide_eq_false (by omega)]
theorem check_loop (l : List S71) (hl : l.length ≤ 40) : ∀ (t : List S71) (i : Int), 0 ≤ i → l.drop i.toNat = t → Ev (fun k => series_Check.l0 k l (l.length : Int) i) (ts t) := by
 intro t
 induction t with
 | nil =>
  intro i h0 hd
  have hle := drop_nil h0 hd
  exact ev_some 1 fun k => by rw [series_Check.l0, if_neg (by omega)]; rfl
 | cons s t ih =>
  intro i h0 hd
  obtain ⟨hlt, hs, ht⟩ := drop_cons z71 h0 hd
  have hs' : rd_T71 l i = s := hs
  have a9 : wrap64 (i + 1) = i + 1 := w64 (by omega) (by omega)
  have hun : ∀ k, series_Check.l0 (k + 1) l (l.length : Int) i = (if bad s then some 3 else series_Check.l0 k l (l.length : Int) (i + 1)) := by
   intro k
   rw [series_Check.l0, if_pos hlt, if_pos h0, if_pos hlt, hs', sbeyond_at (by omega) (by omega), Option.bind_some, sbeyond_at (by omega) (by omega), Option.bind_some, a9]
   by_cases c1 : s.f0 < -1000000000 ∨ s.f0 > 1000000000
   ·rw [decide_eq_true c1, if_pos rfl, if_pos (by unfold bad; omega)]
   rw [decide_eq_false c1, if_neg (by decide)]
   by_cases c2 : s.f1 < 0
   ·rw [if_pos c2, if_pos (by unfold bad; omega)]
   rw [if_neg c2]
   by_cases c3 : s.f1 ≥ 1000000000
   ·rw [if_pos c3, if_pos (by unfold bad; omega)]
   rw [if_neg c3]
   by_cases c4 : s.f2 < -4000000000000000 ∨ s.f2 > 4000000000000000
   ·rw [decide_eq_true c4, if_pos rfl, if_pos (by unfold bad; omega)]
   rw [decide_eq_false c4, if_neg (by decide), if_neg (by unfold bad; omega)]
  unfold ts
  by_cases c : bad s
  ·rw [if_pos c]
   exact ev_some 1 fun k => by rw [hun, if_pos c]
  ·rw [if_neg c]
   exact ev_step 1 (fun k => by rw [hun, if_neg c]) (ih (i + 1) (by omega) ht)
theorem check_ev (a b : Int) (l : List S71) (d : Int) : Ev (fun k => series_Check.f k a b l d) (se a b l d) := by
 unfold series_Check.f se
 by_cases c1 : (l.length : Int) > 40
 ·simp only [if_pos c1]; exact ⟨0, fun _ _ => rfl⟩
 simp only [if_neg c1, sbeyond_at (a := a) (b := 1000000000) (by omega) (by omega), sbeyond_at (a := b) (b := 4000000000000000) (by omega) (by omega), Option.bind_some]
 by_cases c2 : a < -1000000000 ∨ a > 1000000000
 ·rw [if_pos (by unfold hb; omega)]
  exact ev_some 1 fun k => by rw [decide_eq_true c2, if_pos rfl, series_Check.j0, if_pos rfl]
 by_cases c3 : b < -4000000000000000 ∨ b > 4000000000000000
 ·rw [if_pos (by unfold hb; omega)]
  exact ev_some 1 fun k => by rw [decide_eq_false c2, if_neg (by decide), decide_eq_true c3, if_pos rfl, series_Check.j0, if_pos rfl]
 by_cases c4 : d < 0
 ·rw [if_pos (by unfold hb; omega)]
  exact ev_some 1 fun k => by rw [decide_eq_false c2, if_neg (by decide), decide_eq_false c3, if_neg (by decide), if_pos c4, series_Check.j0, if_pos rfl]
 by_cases c5 : d > 100000000
 ·rw [if_pos (by unfold hb; omega)]
  exact ev_some 1 fun k => by rw [decide_eq_false c2, if_neg (by decide), decide_eq_false c3, if_neg (by decide), if_neg c4, decide_eq_true c5, series_Check.j0, if_pos rfl]
 ·rw [if_neg (by unfold hb; omega)]
  exact ev_step 1 (fun k => by rw [decide_eq_false c2, if_neg (by decide), decide_eq_false c3, if_neg (by decide), if_neg c4, decide_eq_false c5, series_Check.j0, if_neg (by decide)]) (check_loop l (by omega) l 0 (by omega) rfl)
theorem ts_zero : ∀ {l : List S71}, ts l = 0 → ∀ x ∈ l, ¬ bad x
 | [], _, x, hx => by cases hx
 | y :: t, h, x, hx => by
  unfold ts at h
  by_cases c : bad y
  ·rw [if_pos c] at h; exact absurd h (by decide)
  ·rw [if_neg c] at h
   rcases List.mem_cons.1 hx with rfl | h2
   ·exact c
   ·exact ts_zero h x h2
theorem se_zero {a b d : Int} {l : List S71} (h : se a b l d = 0) : l.length ≤ 40 ∧ ¬ hb a b d ∧ ∀ x ∈ l, ¬ bad x := by
 unfold se at h
 by_cases c : (l.length : Int) > 40
 ·rw [if_pos c] at h; exact absurd h (by decide)
 rw [if_neg c] at h
 by_cases c2 : hb a b d
 ·rw [if_pos c2] at h; exact absurd h (by decide)
 rw [if_neg c2] at h
 exact ⟨by omega, c2, ts_zero h⟩
def qb (x : S71) : Int := (if x.f0 < 0 then -x.f0 else x.f0) / 100000000 + 2
end Go.Proofs.Ytmahlfjnejbcnaa.SumsT
