/- LinkOffsets: Offset, Delay and Best of the program answer as the document says, for every list of exchanges. -/
import Derived.Test.YtcmgfhfnfkelfaaOpnLinkOffsets
import Derived.Test.YtcmgfhfnfkelfaaBase
namespace Go.Proofs.Ytcmgfhfnfkelfaa.Pure
open Go.RowKit Go.Proofs.YtcmgfhfnfkelfaaW.PrintWords Go.Proofs.YtcmgfhfnfkelfaaW.PrintLast Go.Proofs.Ytcmgfhfnfkelfaa.Opn Go.Proofs.Ytcmgfhfnfkelfaa.PLinkOffsets Go.Proofs.Ytcmgfhfnfkelfaa.Base
set_option linter.unusedVariables false
set_option linter.unusedSimpArgs false

theorem ilt_or (a b : Int) : a < b ∨ b ≤ a := by omega
/-- What a pair of bounds is found to be. -/
def sp (a b : Int) : Int := if a < -1000000000000000000 ∨ a > 1000000000000000000 ∨ b < -1000000000000000000 ∨ b > 1000000000000000000 then 3 else if b < a then 9 else 0
theorem sp_zero {a b : Int} (h : sp a b = 0) : -1000000000000000000 ≤ a ∧ a ≤ b ∧ b ≤ 1000000000000000000 := by
  unfold sp at h
  split at h
  · cases h
  · split at h
    · cases h
    · omega
theorem interval_Check_at (k : Nat) (a b : Int) : interval_Check.f (k + 1) a b = some (sp a b) := by
  unfold interval_Check.f interval_out.f sp
  by_cases c1 : a < -1000000000000000000
  · simp [c1, interval_Check.j0]
  by_cases c2 : a > 1000000000000000000
  · simp [c1, c2, interval_Check.j0]
  by_cases c3 : b < -1000000000000000000
  · simp [c1, c2, c3, interval_Check.j0]
  by_cases c4 : b > 1000000000000000000
  · simp [c1, c2, c3, c4, interval_Check.j0]
  by_cases c5 : b < a
  · simp [c1, c2, c3, c4, c5, interval_Check.j0]
  · simp [c1, c2, c3, c4, c5, interval_Check.j0]
theorem interval_Check_ev (a b : Int) : Ev (fun k => interval_Check.f k a b) (sp a b) := ev_some 1 fun k => interval_Check_at k a b
theorem spanErr_at (k : Nat) (a b : Int) : ephemerisref2_SpanErr.f (k + 1) a b = some (sp a b) := by
  unfold ephemerisref2_SpanErr.f sp
  by_cases c1 : a < -1000000000000000000
  · simp [c1, ephemerisref2_SpanErr.j0]
  by_cases c2 : a > 1000000000000000000
  · simp [c1, c2, ephemerisref2_SpanErr.j0]
  by_cases c3 : b < -1000000000000000000
  · simp [c1, c2, c3, ephemerisref2_SpanErr.j0]
  by_cases c4 : b > 1000000000000000000
  · simp [c1, c2, c3, c4, ephemerisref2_SpanErr.j0]
  by_cases c5 : b < a
  · simp [c1, c2, c3, c4, c5, ephemerisref2_SpanErr.j0]
  · simp [c1, c2, c3, c4, c5, ephemerisref2_SpanErr.j0]
theorem spanErr_ev (a b : Int) : Ev (fun k => ephemerisref2_SpanErr.f k a b) (sp a b) := ev_some 1 fun k => spanErr_at k a b
/-- What bounds of times are found to be. -/
def tm (a b : Int) : Int := if a < -100000000000000000 then 3 else if b > 100000000000000000 then 3 else sp a b
theorem times_at (k : Nat) (a b : Int) : oscill_Times.f (k + 1) a b = some (tm a b) := by
  unfold oscill_Times.f tm
  rw [interval_Check_at]
  split
  · rfl
  · split <;> rfl
theorem timesErr_at (k : Nat) (a b : Int) : ephemerisref2_TimesErr.f (k + 1) a b = some (tm a b) := by
  unfold ephemerisref2_TimesErr.f tm
  rw [spanErr_at]
  split
  · rfl
  · split <;> rfl
theorem tm_zero {a b : Int} (h : tm a b = 0) : -100000000000000000 ≤ a ∧ a ≤ b ∧ b ≤ 100000000000000000 := by
  unfold tm at h
  split at h
  · cases h
  · split at h
    · cases h
    · have := sp_zero h; omega
theorem none_at (a b : Int) (e x : Int) (h : e = x) (ha : a = 0) (hb : b = 0) : ephemerislaw2_none.f a b e x = some true := by
  subst h ha hb
  simp [ephemerislaw2_none.f]
/-- What an exchange is found to be. -/
def exch (s : S40) : Int := if tm s.f0 s.f1 = 0 then tm s.f2.f0 s.f2.f1 else tm s.f0 s.f1
def lo (s : S40) : Int := wrap64 (s.f2.f1 - s.f1)
def hi (s : S40) : Int := wrap64 (s.f2.f0 - s.f0)
def err (s : S40) : Int := if exch s = 0 then (if lo s > hi s then 8 else 0) else exch s
theorem check_at (k : Nat) (s : S40) : link_Check.f (k + 1) s.f0 s.f1 s.f2.f0 s.f2.f1 = some (exch s) := by
  unfold link_Check.f exch
  rw [times_at, Option.bind_some, times_at]
  split <;> rfl
theorem exchErr_at (k : Nat) (s : S40) : ephemerislaw2_exchangeErr.f (k + 1) s.f0 s.f1 s.f2.f0 s.f2.f1 = some (exch s) := by
  unfold ephemerislaw2_exchangeErr.f exch
  rw [timesErr_at, Option.bind_some, timesErr_at]
  split <;> rfl
theorem offset_at (k : Nat) (s : S40) : link_Offset.f (k + 1) s.f0 s.f1 s.f2.f0 s.f2.f1 = some (if err s = 0 then (lo s, hi s, 0) else (0, 0, err s)) := by
  unfold link_Offset.f
  rw [check_at, Option.bind_some]
  unfold err
  by_cases c : exch s = 0
  · rw [if_pos c, if_pos c]
    by_cases c2 : lo s > hi s
    · rw [if_pos (show wrap64 (s.f2.f1 - s.f1) > wrap64 (s.f2.f0 - s.f0) from c2), if_pos c2, if_neg (show ¬ (8 : Int) = 0 by decide)]
    · rw [if_neg (show ¬ wrap64 (s.f2.f1 - s.f1) > wrap64 (s.f2.f0 - s.f0) from c2), if_neg c2, if_pos rfl]; rfl
  · rw [if_neg c, if_neg c, if_neg c]
theorem delay_at (k : Nat) (s : S40) : link_Delay.f (k + 1) s.f0 s.f1 s.f2.f0 s.f2.f1 = some (if err s = 0 then (wrap64 (hi s - lo s), 0) else (0, err s)) := by
  unfold link_Delay.f
  rw [offset_at, Option.bind_some]
  by_cases c : err s = 0
  · rw [if_pos c, if_pos c]; rfl
  · rw [if_neg c, if_neg c]; rw [if_neg c]
theorem err_zero {s : S40} (h : err s = 0) : exch s = 0 ∧ lo s ≤ hi s ∧ -200000000000000000 ≤ lo s ∧ hi s ≤ 200000000000000000 := by
  unfold err at h
  by_cases c : exch s = 0
  · rw [if_pos c] at h
    split at h
    · cases h
    · rename_i c2
      have c' := c
      unfold exch at c'
      by_cases c3 : tm s.f0 s.f1 = 0
      · rw [if_pos c3] at c'
        have h1 := tm_zero c3
        have h2 := tm_zero c'
        have e1 : lo s = s.f2.f1 - s.f1 := w64 (by omega) (by omega)
        have e2 : hi s = s.f2.f0 - s.f0 := w64 (by omega) (by omega)
        exact ⟨c, by omega, by omega, by omega⟩
      · rw [if_neg c3] at c'; exact absurd c' c3
  · rw [if_neg c] at h; exact absurd h c

/-- Best over a suffix. -/
def best : Int → Int → List S40 → Int × Int × Int
  | a, b, [] => if a > b then (0, 0, 6) else (a, b, 0)
  | a, b, s :: t => if err s = 0 then best (mx a (lo s)) (mn b (hi s)) t else (0, 0, err s)
theorem best_loop (l : List S40) (hl : l.length ≤ 40) : ∀ (t : List S40) (i a b : Int), 0 ≤ i → l.drop i.toNat = t → Ev (fun k => link_Best.l0 k l (l.length : Int) i a b) (best a b t) := by
  intro t
  induction t with
  | nil =>
    intro i a b h0 hd
    have hle := drop_nil h0 hd
    refine ev_some 1 fun k => ?_
    rw [link_Best.l0, if_neg (by omega)]
    unfold best
    split <;> rfl
  | cons s t ih =>
    intro i a b h0 hd
    obtain ⟨hlt, hs, ht⟩ := drop_cons z40 h0 hd
    have hs' : rd_T40 l i = s := hs
    have a9 : wrap64 (i + 1) = i + 1 := w64 (by omega) (by omega)
    have hun : ∀ k, link_Best.l0 (k + 2) l (l.length : Int) i a b = (if err s = 0 then link_Best.l0 (k + 1) l (l.length : Int) (i + 1) (mx a (lo s)) (mn b (hi s)) else some (0, 0, err s)) := by
      intro k
      rw [link_Best.l0, if_pos hlt, if_pos h0, if_pos hlt, hs', offset_at, Option.bind_some, a9]
      by_cases c : err s = 0
      · rw [if_pos c, if_pos c]; rfl
      · rw [if_neg c, if_neg c]; rw [if_neg c]
    unfold best
    by_cases c : err s = 0
    · rw [if_pos c]
      obtain ⟨K, hK⟩ := ih (i + 1) (mx a (lo s)) (mn b (hi s)) (by omega) ht
      exact ⟨K + 2, fun k hk => by obtain ⟨m, rfl⟩ : ∃ m, k = m + 2 := ⟨k - 2, by omega⟩; simp only [hun, if_pos c]; exact hK _ (by omega)⟩
    · rw [if_neg c]; exact ev_some 2 fun k => by rw [hun, if_neg c]
theorem best_ev (l : List S40) : Ev (fun k => link_Best.f k l) (if (l.length : Int) > 40 then (0, 0, 2) else if (l.length : Int) = 0 then (0, 0, 6) else best (-400000000000000000) 400000000000000000 l) := by
  unfold link_Best.f
  by_cases c1 : (l.length : Int) > 40
  · simp only [if_pos c1]; exact ⟨0, fun _ _ => rfl⟩
  · by_cases c2 : (l.length : Int) = 0
    · simp only [if_neg c1, if_pos c2]; exact ⟨0, fun _ _ => rfl⟩
    · simp only [if_neg c1, if_neg c2]; exact best_loop l (by omega) l 0 _ _ (by omega) rfl

/-- One round of the law's loop. -/
theorem law_step (l : List S40) (e x a b b0 b1 i : Int) (s : S40) (h0 : 0 ≤ i) (hlt : i < (l.length : Int)) (hl : (l.length : Int) ≤ 9223372036854775807) (hs : rd_T40 l i = s) (k : Nat) :
    ephemerislaw2_LinkOffsets.l0 (k + 6) e x a b l (l.length : Int) i b0 b1 = ephemerislaw2_LinkOffsets.l0 k e (if x = 0 then err s else x) (if i = 0 ∨ lo s > a then lo s else a) (if i = 0 ∨ hi s < b then hi s else b) l (l.length : Int) (i + 1) b0 b1 := by
  have a9 : wrap64 (i + 1) = i + 1 := w64 (by omega) (by omega)
  have elo : wrap64 (s.f2.f1 - s.f1) = lo s := rfl
  have ehi : wrap64 (s.f2.f0 - s.f0) = hi s := rfl
  -- behind the checks
  have tail : ∀ z, ephemerislaw2_LinkOffsets.j5 (k + 3) e x a b i z l (l.length : Int) i b0 b1 (lo s) (hi s) = ephemerislaw2_LinkOffsets.l0 k e (if x = 0 then z else x) (if i = 0 ∨ lo s > a then lo s else a) (if i = 0 ∨ hi s < b then hi s else b) l (l.length : Int) (i + 1) b0 b1 := by
    intro z
    by_cases c0 : x = 0 <;> by_cases c1 : i = 0 <;> by_cases c2 : lo s > a <;> by_cases c3 : hi s < b <;> simp [ephemerislaw2_LinkOffsets.j5, ephemerislaw2_LinkOffsets.j6, ephemerislaw2_LinkOffsets.j7, c0, c1, c2, c3, a9] <;> simp [c1] at a9 <;> simp [a9]
  rw [ephemerislaw2_LinkOffsets.l0, if_pos hlt, if_pos h0, if_pos hlt, hs, offset_at, Option.bind_some, delay_at, Option.bind_some, exchErr_at, Option.bind_some, check_at, Option.bind_some, if_pos rfl, elo, ehi]
  by_cases z : exch s = 0
  · rw [if_pos z]
    by_cases c : lo s > hi s
    · have he : err s = 8 := by unfold err; rw [if_pos z, if_pos c]
      rw [ephemerislaw2_LinkOffsets.j3, if_pos (decide_eq_true c), ephemerislaw2_LinkOffsets.j4, if_neg (by decide)]
      simp only [he, if_neg (show ¬ ((8 : Int) = 0) by decide), none_at 0 0 8 8 rfl rfl rfl, Option.bind_some, if_true]
      rw [tail]
    · have he : err s = 0 := by unfold err; rw [if_pos z, if_neg c]
      rw [ephemerislaw2_LinkOffsets.j3, if_neg (by simp only [decide_eq_true_eq]; exact c), ephemerislaw2_LinkOffsets.j4, if_pos z]
      simp only [he, if_true, beq_self_eq_true, Bool.not_true, Bool.or_self, Bool.false_eq_true, if_false, z]
      rw [tail]
  · have he : err s = exch s := by unfold err; rw [if_neg z]
    rw [if_neg z, ephemerislaw2_LinkOffsets.j3, if_neg (by decide), ephemerislaw2_LinkOffsets.j4, if_neg z]
    simp only [he, if_neg z, none_at 0 0 (exch s) (exch s) rfl rfl rfl, Option.bind_some, if_true]
    rw [tail]

theorem law_end (l : List S40) (e x a b b0 b1 i : Int) (hi' : (l.length : Int) ≤ i) (k : Nat) : ephemerislaw2_LinkOffsets.l0 (k + 2) e x a b l (l.length : Int) i b0 b1 = (if x = 0 then (if a > b then (ephemerislaw2_none.f b0 b1 e 6) else (if e = 0 then some (b0 == a && (b1 == b)) else some false)) else ephemerislaw2_none.f b0 b1 e x) := by
  rw [ephemerislaw2_LinkOffsets.l0, if_neg (by omega)]
  by_cases c : x = 0
  · rw [if_pos c, if_pos c, ephemerislaw2_LinkOffsets.j8]
    by_cases c2 : a > b
    · rw [if_pos (decide_eq_true c2), if_pos c2, if_neg (by decide)]
      cases ephemerislaw2_none.f b0 b1 e 6 <;> rfl
    · rw [if_neg (by simp only [decide_eq_true_eq]; exact c2), if_neg c2, if_pos c]
  · rw [if_neg c, if_neg c, ephemerislaw2_LinkOffsets.j8, if_neg (by decide), if_neg c]
    cases ephemerislaw2_none.f b0 b1 e x <;> rfl

/-- Behind an error. -/
theorem law_bad (l : List S40) (x : Int) (hx : x ≠ 0) (hl : (l.length : Int) ≤ 9223372036854775807) : ∀ (t : List S40) (i a b : Int), 0 ≤ i → l.drop i.toNat = t → Ev (fun k => ephemerislaw2_LinkOffsets.l0 k x x a b l (l.length : Int) i 0 0) true := by
  intro t
  induction t with
  | nil =>
    intro i a b h0 hd
    have hle := drop_nil h0 hd
    exact ev_some 2 fun k => by rw [law_end l x x a b 0 0 i hle, if_neg hx, none_at 0 0 x x rfl rfl rfl]
  | cons s t ih =>
    intro i a b h0 hd
    obtain ⟨hlt, hs, ht⟩ := drop_cons z40 h0 hd
    refine ev_step 6 (fun k => law_step l x x a b 0 0 i s h0 hlt hl hs k) ?_
    simp only [if_neg hx]
    exact ih (i + 1) _ _ (by omega) ht
theorem law_loop (l : List S40) (hl : (l.length : Int) ≤ 9223372036854775807) : ∀ (t : List S40) (i a b : Int), 0 < i → l.drop i.toNat = t →
    Ev (fun k => ephemerislaw2_LinkOffsets.l0 k (best a b t).2.2 0 a b l (l.length : Int) i (best a b t).1 (best a b t).2.1) true := by
  intro t
  induction t with
  | nil =>
    intro i a b h0 hd
    have hle := drop_nil (by omega) hd
    refine ev_some 2 fun k => ?_
    rw [law_end l _ 0 a b _ _ i hle, if_pos rfl]
    unfold best
    by_cases c : a > b
    · rw [if_pos c, if_pos c]; exact none_at 0 0 6 6 rfl rfl rfl
    · rw [if_neg c, if_neg c]; simp
  | cons s t ih =>
    intro i a b h0 hd
    obtain ⟨hlt, hs, ht⟩ := drop_cons z40 (by omega) hd
    refine ev_step 6 (fun k => law_step l _ 0 a b _ _ i s (by omega) hlt hl hs k) ?_
    simp only [if_true]
    unfold best
    by_cases c : err s = 0
    · simp only [if_pos c]
      rw [show (if i = 0 ∨ lo s > a then lo s else a) = mx a (lo s) by unfold mx; split <;> omega, show (if i = 0 ∨ hi s < b then hi s else b) = mn b (hi s) by unfold mn; split <;> omega, c]
      exact ih (i + 1) _ _ (by omega) ht
    · simp only [if_neg c]
      exact law_bad l (err s) c hl t (i + 1) _ _ (by omega) ht

theorem works_ev : Ev (fun k => ephemerislaw2_linkWorks.f k) true := Ev.of ephemerislaw2_linkWorks.mono (k := 20) (by decide +kernel)
theorem LinkOffsets : PureX := by
  intro l hl
  have hlen : (l.length : Int) ≤ 9223372036854775807 := by have := hl.1; omega
  refine ev_k ?_
  unfold ephemerislaw2_LinkOffsets.f
  refine ev_bind works_ev ?_
  simp only [if_true]
  refine ev_bind (best_ev l) ?_
  by_cases c1 : (l.length : Int) > 40
  · simp only [if_pos c1, if_neg (show ¬ ((l.length : Int) = 0) by omega)]
    refine ev_step 2 (f := fun k => ephemerislaw2_LinkOffsets.l0 k 2 2 0 0 l (l.length : Int) 0 0 0) (fun k => ?_) (law_bad l 2 (by decide) hlen l 0 0 0 (by omega) rfl)
    rw [ephemerislaw2_LinkOffsets.j0, if_pos c1, ephemerislaw2_LinkOffsets.j1]
  · by_cases c2 : (l.length : Int) = 0
    · simp only [if_neg c1, if_pos c2]
      refine ev_step 2 (f := fun k => ephemerislaw2_LinkOffsets.l0 k 6 6 0 0 l (l.length : Int) 0 0 0) (fun k => ?_) (law_bad l 6 (by decide) hlen l 0 0 0 (by omega) rfl)
      rw [ephemerislaw2_LinkOffsets.j0, if_neg c1, ephemerislaw2_LinkOffsets.j1]
    · simp only [if_neg c1, if_neg c2]
      refine ev_step 2 (f := fun k => ephemerislaw2_LinkOffsets.l0 k (best (-400000000000000000) 400000000000000000 l).2.2 0 0 0 l (l.length : Int) 0 (best (-400000000000000000) 400000000000000000 l).1 (best (-400000000000000000) 400000000000000000 l).2.1) (fun k => ?_) ?_
      · rw [ephemerislaw2_LinkOffsets.j0, if_neg c1, ephemerislaw2_LinkOffsets.j1]
      · cases hd : l with
        | nil => rw [hd] at c2; simp at c2
        | cons s t =>
          rw [← hd]
          have hd0 : l.drop (0 : Int).toNat = s :: t := by simpa using hd
          obtain ⟨hlt, hs, ht⟩ := drop_cons z40 (by omega) hd0
          refine ev_step 6 (fun k => law_step l _ 0 0 0 _ _ 0 s (by omega) hlt hlen hs k) ?_
          simp only [if_true, true_or]
          rw [show best (-400000000000000000) 400000000000000000 l = (if err s = 0 then best (mx (-400000000000000000) (lo s)) (mn 400000000000000000 (hi s)) t else (0, 0, err s)) by rw [hd]; rfl]
          by_cases c : err s = 0
          · obtain ⟨_, g1, g2, g3⟩ := err_zero c
            simp only [if_pos c]
            rw [show mx (-400000000000000000) (lo s) = lo s by unfold mx; split <;> omega, show mn 400000000000000000 (hi s) = hi s by unfold mn; split <;> omega, c]
            exact law_loop l hlen t (0 + 1) (lo s) (hi s) (by omega) ht
          · simp only [if_neg c]
            exact law_bad l (err s) c hlen t (0 + 1) _ _ (by omega) ht

end Go.Proofs.Ytcmgfhfnfkelfaa.Pure
