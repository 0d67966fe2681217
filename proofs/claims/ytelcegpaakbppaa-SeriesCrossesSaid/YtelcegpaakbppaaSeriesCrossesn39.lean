/- SeriesCrosses: Cross is what the document says. -/
import Derived.Test.YtelcegpaakbppaaSeriesCrossesn2
import Derived.Test.YtelcegpaakbppaaSeriesCrossesn3
import Derived.Test.YtelcegpaakbppaaSeriesCrossesn8
import Derived.Test.YtelcegpaakbppaaSeriesCrossesn9
import Derived.Test.YtelcegpaakbppaaSeriesCrossesn10
import Derived.Test.YtelcegpaakbppaaSeriesCrossesn11
import Derived.Test.YtelcegpaakbppaaSeriesCrossesn18
import Derived.Test.YtelcegpaakbppaaSeriesCrossesn19
import Derived.Test.YtelcegpaakbppaaSeriesCrossesn22
import Derived.Test.YtelcegpaakbppaaSeriesCrossesn37
import Derived.Test.YtelcegpaakbppaaSeriesCrossesn38
namespace Go.Proofs.Ytelcegpaakbppaa.Pure
open Go Go.RowKit Go.Proofs.YtelcegpaakbppaaW.PrintWords Go.Proofs.YtelcegpaakbppaaW.PrintLast Go.Proofs.YtelcegpaakbppaaW.PrintMore Go.Proofs.Ytelcegpaakbppaa.Opn Go.Proofs.Ytelcegpaakbppaa.PAll Go.Proofs.Ytelcegpaakbppaa.Base Go.Proofs.Ytelcegpaakbppaa.SumsT Go.Proofs.Ytelcegpaakbppaa.Vals Go.Proofs.Ytelcegpaakbppaa.SumsE Go.Proofs.Ytelcegpaakbppaa.Args Go.Proofs.Ytelcegpaakbppaa.RefT Go.Proofs.Ytelcegpaakbppaa.SinT
set_option linter.unusedVariables false
set_option linter.unusedSimpArgs false
theorem ob_ev {α β : Type} {g : Nat → Option α} {f : Nat → α → Option β} {a : α} {r : β} (h : Ev g a) (k : Ev (fun n => f n a) r) : Ev (fun n => Sx.ob (g n) (f n)) r := by
  refine Ev.congr (fun n => Sx.ob_eq _ _) ?_
  exact ev_bind h k
theorem oif_pos {β : Type} {c : Prop} [inst : Decidable c] {A B : Option β} (h : c) : Sx.oif c A B = A := by rw [Sx.oif_eq, if_pos h]
theorem oif_neg {β : Type} {c : Prop} [inst : Decidable c] {A B : Option β} (h : ¬ c) : Sx.oif c A B = B := by rw [Sx.oif_eq, if_neg h]
theorem bne0 {x : Int} (h : x = 0) : ¬ (x != 0) = true := by simp [h]
theorem bne1 {x : Int} (h : x ≠ 0) : (x != 0) = true := by simp [h]
theorem series_works : Ev (fun k => ephemerislaw2_seriesWorks.f k) true := Ev.of ephemerislaw2_seriesWorks.mono (k := 60) (by decide +kernel)
theorem none_at (e : Int) : ephemerislaw2_none.f 0 0 e e = some true := by unfold ephemerislaw2_none.f; simp
/-- Slope says something -/
theorem floor_some (a : Int) {b : Int} (hb : b ≠ 0) : ∃ q, interval_Floor.f a b = some q := by
  unfold interval_Floor.f
  rw [if_neg hb]
  split
  · exact ⟨_, rfl⟩
  · split <;> exact ⟨_, rfl⟩
theorem ceil_some (a : Int) {b : Int} (hb : b ≠ 0) : ∃ q, interval_Ceil.f a b = some q := by
  obtain ⟨q, h⟩ := floor_some (wrap64 (-a)) hb
  exact ⟨wrap64 (-q), by unfold interval_Ceil.f; rw [h, Option.bind_some]⟩
theorem slope_some (l : List S53) (hl : l.length ≤ 40) (a b d : Int) : ∀ (r : List S53) (i most : Int), 0 ≤ i → l.drop i.toNat = r → ∃ v, Ev (fun k => series_Slope.l0 k most l (l.length : Int) i a b l d) v := by
  intro r
  induction r with
  | nil =>
    intro i most h0 hd
    have hle := drop_nil h0 hd
    obtain ⟨p, hp⟩ := floor_some b (b := 1000000) (by omega)
    obtain ⟨q, hq⟩ := ceil_some b (b := 1000000) (by omega)
    exact ⟨_, ev_some 1 fun k => by rw [series_Slope.l0, if_neg (by omega), hp, Option.bind_some, hq, Option.bind_some]⟩
  | cons s r ih =>
    intro i most h0 hd
    obtain ⟨hlt, hs, ht⟩ := drop_cons z53 h0 hd
    have hs' : rd_T53 l i = s := hs
    have a9 : wrap64 (i + 1) = i + 1 := w64 (by omega) (by omega)
    have step : ∀ x8 x9 : Int, ∃ v, Ev (fun k => series_Slope.j1 k most x8 x9 l (l.length : Int) i a b l d) v := by
      intro x8 x9
      by_cases c : x9 < 0
      · obtain ⟨p, hp⟩ := ceil_some (wrap64 (-x9)) (b := 1000000) (by omega)
        obtain ⟨q, hq⟩ := ceil_some (wrap64 (x8 * p)) (b := 1000000000) (by omega)
        obtain ⟨w, hw⟩ := ceil_some (wrap64 (q * 44)) (b := 7) (by omega)
        obtain ⟨v, hv⟩ := ih (i + 1) (wrap64 (most + w)) (by omega) ht
        exact ⟨v, ev_step 1 (fun k => by rw [series_Slope.j1, if_pos c, hp, Option.bind_some, hq, Option.bind_some, hw, Option.bind_some, a9]) hv⟩
      · obtain ⟨p, hp⟩ := ceil_some x9 (b := 1000000) (by omega)
        obtain ⟨q, hq⟩ := ceil_some (wrap64 (x8 * p)) (b := 1000000000) (by omega)
        obtain ⟨w, hw⟩ := ceil_some (wrap64 (q * 44)) (b := 7) (by omega)
        obtain ⟨v, hv⟩ := ih (i + 1) (wrap64 (most + w)) (by omega) ht
        exact ⟨v, ev_step 1 (fun k => by rw [series_Slope.j1, if_neg c, hp, Option.bind_some, hq, Option.bind_some, hw, Option.bind_some, a9]) hv⟩
    by_cases c : s.f0 < 0
    · obtain ⟨v, hv⟩ := step (wrap64 (-s.f0)) s.f2
      exact ⟨v, ev_step 1 (fun k => by rw [series_Slope.l0, if_pos hlt, if_pos h0, if_pos hlt, hs', if_pos c]) hv⟩
    · obtain ⟨v, hv⟩ := step s.f0 s.f2
      exact ⟨v, ev_step 1 (fun k => by rw [series_Slope.l0, if_pos hlt, if_pos h0, if_pos hlt, hs', if_neg c]) hv⟩
/-- on which side an interval lies -/
def sg (al ah g : Int) : Int := if (al - g + 500000000) % 1000000000 - 500000000 > 0 ∧ (al - g + 500000000) % 1000000000 - 500000000 + ah - al < 500000000 then 1 else if (al - g + 500000000) % 1000000000 - 500000000 + ah - al < 0 ∧ (al - g + 500000000) % 1000000000 - 500000000 > -500000000 then -1 else 0
theorem sg_cases (lo hi : Int) (k : Nat) : (if lo > 0 then (if decide (hi < 500000000) = true then some (1 : Int) else (if hi < 0 then (if lo > (-500000000) then (some (-1)) else (some 0)) else (some 0))) else (if false = true then some 1 else (if hi < 0 then (if lo > (-500000000) then (some (-1)) else (some 0)) else (some 0)))) = some (if lo > 0 ∧ hi < 500000000 then 1 else if hi < 0 ∧ lo > -500000000 then -1 else 0) := by
  by_cases c1 : lo > 0
  · by_cases c2 : hi < 500000000
    · simp [c1, c2]
    · have : ¬ hi < 0 := by omega
      simp [c1, c2, this]
  · by_cases c3 : hi < 0
    · by_cases c4 : lo > -500000000
      · simp [c1, c3, c4]
      · simp [c1, c3, c4]
    · simp [c1, c3]
theorem after_ev {al ah g : Int} (a0 : 0 ≤ al) (a1 : al < 1000000000) (h0 : al ≤ ah) (h1 : ah ≤ al + 1000000000) (g0 : 0 ≤ g) (g1 : g < 1000000000) : Ev (fun k => series_After.f k al ah g) (sg al ah g) :=
  ev_some 1 fun k => by
    unfold series_After.f sg
    have e1 : al - g - (al - g + 500000000) / 1000000000 * 1000000000 = (al - g + 500000000) % 1000000000 - 500000000 := by omega
    have e2 : ah - g - (al - g + 500000000) / 1000000000 * 1000000000 = (al - g + 500000000) % 1000000000 - 500000000 + ah - al := by omega
    rw [w64 (x := al - g) (by omega) (by omega), w64 (x := al - g + 500000000) (by omega) (by omega), floor_pos (by omega) (by omega), Option.bind_some, w64 (x := (al - g + 500000000) / 1000000000 * 1000000000) (by omega) (by omega), w64 (x := al - g - (al - g + 500000000) / 1000000000 * 1000000000) (by omega) (by omega), w64 (x := ah - g) (by omega) (by omega), w64 (x := ah - g - (al - g + 500000000) / 1000000000 * 1000000000) (by omega) (by omega), e1, e2]
    generalize (al - g + 500000000) % 1000000000 - 500000000 = lo at *
    rw [series_After.j0, series_After.j0]
    exact sg_cases lo (lo + ah - al) k
theorem side_at {al ah g : Int} (a0 : 0 ≤ al) (a1 : al < 1000000000) (h0 : al ≤ ah) (h1 : ah ≤ al + 1000000000) (g0 : 0 ≤ g) (g1 : g < 1000000000) {m b d t : Int} {l : List S53} (e : Ev (fun k => series_Angle.f k m b l d t) (al, ah, 0)) : Ev (fun k => ephemerislaw2_side.f k m b l d t g) (sg al ah g) := by
  unfold ephemerislaw2_side.f
  refine ev_bind e (ev_some 1 fun k => ?_)
  unfold sg
  dsimp only
  rw [w64 (x := al - g) (by omega) (by omega), w64 (x := al - g + 500000000) (by omega) (by omega), mod_pos (by omega) (by omega), Option.bind_some, w64 (x := (al - g + 500000000) % 1000000000 - 500000000) (by omega) (by omega), w64 (x := (al - g + 500000000) % 1000000000 - 500000000 + ah) (by omega) (by omega), w64 (x := (al - g + 500000000) % 1000000000 - 500000000 + ah - al) (by omega) (by omega)]
  generalize (al - g + 500000000) % 1000000000 - 500000000 = lo at *
  rw [ephemerislaw2_side.j0, ephemerislaw2_side.j0]
  exact sg_cases lo (lo + ah - al) k
theorem valid_at' (t : Int) : series_Valid.f t = some (decide (-345600000000000 ≤ t ∧ t < 345600086400000)) := valid_at t
/-- why there is no passage to look for -/
def ce (m b : Int) (l : List S53) (d g x y wd : Int) : Int := if se m b l d ≠ 0 then se m b l d else if it x ≠ 0 ∨ it y ≠ 0 then 3 else if g < 0 ∨ g > 999999999 ∨ wd < 1 ∨ x > y then 1 else 0
theorem SeriesCrosses : PureX := by
  intro s g f wd hs hg hf hw
  refine ev_k (g := fun k => ephemerislaw2_SeriesCrosses.f k s.f0 s.f1 s.f2 s.f3 g f.f0 f.f1 wd) ?_
  obtain ⟨m, b, l, d⟩ := s
  obtain ⟨x, y⟩ := f
  dsimp only
  have iz : ∀ t, it t ≠ 0 → ¬ (-345600000000000 ≤ t ∧ t < 345600086400000) := fun t h h' => h (if_pos h')
  have iok : ∀ t, it t = 0 → (-345600000000000 ≤ t ∧ t < 345600086400000) := fun t h => it_zero h
  have law : ∀ v w e : Int, Ev (fun k => series_Cross.f k m b l d g x y wd) (v, w, e) → (Ev (fun k => ephemerislaw2_SeriesCrosses.j3 k g wd e (ce m b l d g x y wd) m b l d x y v w) true) →
      Ev (fun k => ephemerislaw2_SeriesCrosses.f k m b l d g x y wd) true := by
    intro v w e hc h3
    unfold ephemerislaw2_SeriesCrosses.f
    refine ev_bind series_works ?_
    refine Ev.congr (fun k => if_pos rfl) ?_
    refine ev_bind hc (ev_bind (sumErr_ev _ _ _ _) ?_)
    dsimp only
    have j1 : ∀ X : Int, Ev (fun k => ephemerislaw2_SeriesCrosses.j3 k g wd e (if X = 0 then (if g < 0 ∨ g > 999999999 ∨ wd < 1 ∨ x > y then 1 else 0) else X) m b l d x y v w) true → Ev (fun k => ephemerislaw2_SeriesCrosses.j1 k g wd e X m b l d x y v w) true := by
      intro X hX
      refine ev_step 2 (fun k => ?_) hX
      rw [ephemerislaw2_SeriesCrosses.j1]
      by_cases cX : X = 0
      · subst cX
        rw [if_pos rfl, if_pos rfl]
        by_cases c1 : g < 0
        · simp [c1, ephemerislaw2_SeriesCrosses.j2]
        by_cases c2 : g > 999999999
        · simp [c1, c2, ephemerislaw2_SeriesCrosses.j2]
        by_cases c3 : wd < 1
        · simp [c1, c2, c3, ephemerislaw2_SeriesCrosses.j2]
        by_cases c4 : x > y
        · simp [c1, c2, c3, c4, ephemerislaw2_SeriesCrosses.j2]
        · simp [c1, c2, c3, c4, ephemerislaw2_SeriesCrosses.j2]
      · rw [if_neg cX, if_neg cX, ephemerislaw2_SeriesCrosses.j2, if_neg (by simp)]
    have j0 : ∀ (B : Bool), Ev (fun k => ephemerislaw2_SeriesCrosses.j1 k g wd e (if B = true then 3 else se m b l d) m b l d x y v w) true → Ev (fun k => ephemerislaw2_SeriesCrosses.j0 k g wd e (se m b l d) B m b l d x y v w) true := by
      intro B hB
      refine ev_step 1 (fun k => ?_) hB
      rw [ephemerislaw2_SeriesCrosses.j0]
      cases B <;> simp
    unfold ce at h3
    by_cases c : se m b l d = 0
    · simp only [if_pos c, c, ne_eq, not_true_eq_false, if_false] at h3 ⊢
      refine Ev.congr (fun k => by rw [instErr_at, Option.bind_some]) ?_
      by_cases cx : it x = 0
      · refine Ev.congr (fun k => by rw [if_pos cx, instErr_at, Option.bind_some]) ?_
        have := j0 (it y != 0)
        rw [c] at this
        refine this (j1 _ ?_)
        by_cases cy : it y = 0
        · simp only [cx, cy, ne_eq, not_true_eq_false, or_self, if_false] at h3
          simpa [cy] using h3
        · simp only [cx, cy, ne_eq, not_true_eq_false, not_false_eq_true, or_true, if_true] at h3
          simpa [cy] using h3
      · refine Ev.congr (fun k => by rw [if_neg cx]) ?_
        have := j0 true
        rw [c] at this
        refine this (j1 _ ?_)
        simp only [cx, ne_eq, not_false_eq_true, true_or, if_true] at h3
        simpa using h3
    · simp only [if_neg c, ne_eq, c, not_false_eq_true, if_true] at h3 ⊢
      refine j0 false (j1 _ ?_)
      simpa [c] using h3
  by_cases c0 : ce m b l d g x y wd = 0
  · have c1 : se m b l d = 0 := by unfold ce at c0; split at c0; · rename_i h; exact absurd c0 h
                                   · rename_i h; simpa using h
    have c2 : it x = 0 ∧ it y = 0 ∧ 0 ≤ g ∧ g ≤ 999999999 ∧ 1 ≤ wd ∧ x ≤ y := by
      unfold ce at c0
      rw [if_neg (by simpa using c1)] at c0
      split at c0
      · cases c0
      · split at c0
        · cases c0
        · rename_i h1 h2
          refine ⟨?_, ?_, by omega, by omega, by omega, by omega⟩
          · exact Classical.byContradiction fun h => h1 (.inl h)
          · exact Classical.byContradiction fun h => h1 (.inr h)
    obtain ⟨ix, iy, g0, g1, w1, xy⟩ := c2
    obtain ⟨x1, x2⟩ := iok x ix
    obtain ⟨y1, y2⟩ := iok y iy
    obtain ⟨hl, hbd, hgood⟩ := se_zero c1
    have hq := qs_bound hgood
    unfold hb at hbd
    -- the sign at each instant
    have hang : ∀ t, x ≤ t → t ≤ y → ∃ al ah : Int, Ev (fun k => series_Angle.f k m b l d t) (al, ah, 0) ∧ 0 ≤ al ∧ al < 1000000000 ∧ al ≤ ah ∧ ah ≤ al + 1000000000 := by
      intro t t1 t2
      have hst : st2 m b l d t = 0 := by
        unfold st2; rw [if_pos c1]; exact if_pos ⟨by omega, by omega⟩
      obtain ⟨al, ah, w, e1, _, a0, a1, r1, r2, _⟩ := angle_ev hst
      exact ⟨al, ah, e1, a0, a1, by omega, by omega⟩
    have hsig : ∀ t, ∃ v : Int, x ≤ t → t ≤ y → Ev (fun k => Sx.ob (series_Angle.f k m b l d t) fun q => Sx.ob (series_After.f k q.fst q.snd.fst g) fun z => some z) v ∧ Ev (fun k => ephemerislaw2_side.f k m b l d t g) v := by
      intro t
      by_cases ht : x ≤ t ∧ t ≤ y
      · obtain ⟨al, ah, e1, a0, a1, h0, h1⟩ := hang t ht.1 ht.2
        exact ⟨sg al ah g, fun _ _ => ⟨ob_ev e1 (ob_ev (after_ev a0 a1 h0 h1 g0 (by omega)) (ev_some 0 fun k => rfl)), side_at a0 a1 h0 h1 g0 (by omega) e1⟩⟩
      · exact ⟨0, fun h1 h2 => absurd ⟨h1, h2⟩ ht⟩
    obtain ⟨σ, hσ⟩ := Classical.axiomOfChoice hsig
    obtain ⟨⟨sl, sh, se'⟩, hslope⟩ : ∃ v, Ev (fun k => series_Slope.f k m b l d) v := by
      obtain ⟨v, hv⟩ := slope_some l hl m b d l 0 0 (by omega) rfl
      refine ⟨v, ?_⟩
      unfold series_Slope.f
      refine ev_bind (check_ev m b l d) ?_
      simp only [if_pos c1]
      exact hv
    -- Cross, up to the slope
    have cross : ∀ r, Ev (fun k => Sx.ob (series_Slope.f k m b l d) fun t4 =>
          Sx.oif (decide (t4.fst ≤ 0) = true) (
          some (0, 0, 8)) (
          Sx.ob (series_Angle.f k m b l d x) fun t5 =>
          Sx.ob (series_After.f k t5.fst t5.snd.fst g) fun t6 =>
          Sx.oif (decide (t6 ≥ 0) = true) (
           some (0, 0, 6)) (
           Sx.ob (series_Angle.f k m b l d y) fun t7 =>
           Sx.ob (series_After.f k t7.fst t7.snd.fst g) fun t8 =>
           Sx.oif (decide (t8 ≤ 0) = true) (
            some (0, 0, 6)) (
            Sx.ob (Nar83.f (fun p9 =>
               Sx.ob (series_Angle.f k m b l d p9) fun t10 =>
               Sx.ob (series_After.f k t10.fst t10.snd.fst g) fun t11 =>
               some (t11)) k x y wd) fun t10 =>
            some (t10.fst, t10.snd.fst, t10.snd.snd))))) r → Ev (fun k => series_Cross.f k m b l d g x y wd) r := by
      intro r hr
      unfold series_Cross.f
      refine ob_ev (check_ev m b l d) ?_
      refine Ev.congr (fun k => (oif_neg (bne0 c1)).trans (by rw [valid_at', Sx.ob_eq, Option.bind_some])) ?_
      refine Ev.congr (fun k => (oif_neg (by simp; omega)).trans (by rw [valid_at', Sx.ob_eq, Option.bind_some])) ?_
      refine Ev.congr (fun k => (oif_neg (by simp; omega)).trans ((oif_neg (by simp; omega)).trans ((oif_neg (by simp; omega)).trans ((oif_neg (by simp; omega)).trans (oif_neg (by simp; omega)))))) ?_
      exact hr
    obtain ⟨sx1, sx2⟩ := hσ x (Int.le_refl _) xy
    obtain ⟨sy1, sy2⟩ := hσ y xy (Int.le_refl _)
    obtain ⟨ax, bx, ex, _⟩ := hang x (Int.le_refl _) xy
    obtain ⟨ay, bY, ey, _⟩ := hang y xy (Int.le_refl _)
    rw [c0] at law
    by_cases cs : sl ≤ 0
    · refine law 0 0 8 (cross _ (ob_ev hslope (ev_some 0 fun k => oif_pos (by simpa using cs)))) ?_
      refine ev_step 1 (fun k => by rw [ephemerislaw2_SeriesCrosses.j3, if_pos rfl]) ?_
      refine ev_bind hslope (ev_some 0 fun k => ?_)
      rw [if_pos cs, none_at]; rfl
    -- the signs at the ends, as Cross tells them
    have ends : ∀ (t : Int), x ≤ t → t ≤ y → ∀ (F : Nat → Int → Option (Int × Int × Int)) (r : Int × Int × Int), Ev (fun k => F k (σ t)) r →
        Ev (fun k => Sx.ob (series_Angle.f k m b l d t) fun q => Sx.ob (series_After.f k q.fst q.snd.fst g) fun z => F k z) r := by
      intro t t1 t2 F r hF
      obtain ⟨K1, hK1⟩ := (hσ t t1 t2).1
      obtain ⟨K2, hK2⟩ := hF
      refine ⟨K1 + K2, fun k hk => ?_⟩
      have h1 := hK1 k (by omega)
      have h2 := hK2 k (by omega)
      simp only [Sx.ob_eq] at h1 ⊢
      cases hq : series_Angle.f k m b l d t with
      | none => rw [hq] at h1; cases h1
      | some q =>
        rw [hq, Option.bind_some] at h1
        rw [Option.bind_some]
        cases hz : series_After.f k q.fst q.snd.fst g with
        | none => rw [hz] at h1; cases h1
        | some z =>
          rw [hz, Option.bind_some] at h1
          rw [Option.bind_some]
          cases h1
          exact h2
    have j3 : ∀ v w e : Int, Ev (fun k => ephemerislaw2_SeriesCrosses.j4 k g wd e (decide (σ x ≥ 0 ∨ σ y ≤ 0)) m b l d x y v w) true → Ev (fun k => ephemerislaw2_SeriesCrosses.j3 k g wd e 0 m b l d x y v w) true := by
      intro v w e h4
      refine ev_step 1 (fun k => by rw [ephemerislaw2_SeriesCrosses.j3, if_pos rfl]) ?_
      refine ev_bind hslope ?_
      refine Ev.congr (fun k => if_neg cs) ?_
      refine ev_bind sx2 ?_
      by_cases c4 : σ x ≥ 0
      · refine Ev.congr (fun k => if_pos c4) ?_
        rw [decide_eq_true (Or.inl c4)] at h4
        exact h4
      · refine Ev.congr (fun k => if_neg c4) ?_
        refine ev_bind sy2 ?_
        have e4 : decide (σ x ≥ 0 ∨ σ y ≤ 0) = decide (σ y ≤ 0) := by simp [c4]
        rw [e4] at h4
        exact h4
    by_cases c5 : σ x ≥ 0 ∨ σ y ≤ 0
    · have hcr : Ev (fun k => series_Cross.f k m b l d g x y wd) (0, 0, 6) := by
        refine cross _ (ob_ev hslope ?_)
        refine Ev.congr (fun k => oif_neg (by simpa using cs)) ?_
        refine ends x (Int.le_refl _) xy (fun k t6 => _) _ ?_
        by_cases c6 : σ x ≥ 0
        · exact ev_some 0 fun k => oif_pos (by simpa using c6)
        · refine Ev.congr (fun k => oif_neg (by simpa using c6)) ?_
          refine ends y xy (Int.le_refl _) (fun k t8 => _) _ ?_
          exact ev_some 0 fun k => oif_pos (by simp; omega)
      refine law 0 0 6 hcr (j3 _ _ _ (ev_some 1 fun k => ?_))
      rw [ephemerislaw2_SeriesCrosses.j4, if_pos (decide_eq_true c5), none_at]; rfl
    · obtain ⟨v, w, e, en, hen⟩ := NarT.nar_ev (s := fun k t => Sx.ob (series_Angle.f k m b l d t) fun q => Sx.ob (series_After.f k q.fst q.snd.fst g) fun z => some z) (σ := σ) (A0 := x) (B0 := y) (by omega) (by omega) (fun t h1 h2 => (hσ t h1 h2).1) w1 xy (Int.le_refl _) (Int.le_refl _) (by omega) (by omega)
      have hcr : Ev (fun k => series_Cross.f k m b l d g x y wd) (v, w, e) := by
        refine cross _ (ob_ev hslope ?_)
        refine Ev.congr (fun k => oif_neg (by simpa using cs)) ?_
        refine ends x (Int.le_refl _) xy (fun k t6 => _) _ ?_
        refine Ev.congr (fun k => oif_neg (by simp; omega)) ?_
        refine ends y xy (Int.le_refl _) (fun k t8 => _) _ ?_
        refine Ev.congr (fun k => oif_neg (by simp; omega)) ?_
        exact ob_ev en (ev_some 0 fun k => rfl)
      refine law v w e hcr (j3 _ _ _ ?_)
      rcases hen with ⟨rfl, n1, n2, n3, n4, n5, n6⟩ | ⟨rfl, rfl, rfl⟩
      · refine ev_step 1 (fun k => by rw [ephemerislaw2_SeriesCrosses.j4, if_neg (by simpa using c5), if_pos rfl, if_pos n1, if_pos n3, w64 (x := w - v) (by omega) (by omega), if_pos n4]) ?_
        refine ev_bind (hσ v n1 (by omega)).2 ?_
        refine Ev.congr (fun k => if_pos n5) ?_
        exact ev_bind (hσ w (by omega) n3).2 (ev_some 0 fun k => congrArg some (decide_eq_true n6))
      · exact ev_some 1 fun k => by rw [ephemerislaw2_SeriesCrosses.j4, if_neg (by simpa using c5), if_neg (by decide), none_at]; rfl
  · -- an error before
    have hcr : Ev (fun k => series_Cross.f k m b l d g x y wd) (0, 0, ce m b l d g x y wd) := by
      unfold series_Cross.f
      refine ob_ev (check_ev m b l d) ?_
      by_cases c1 : se m b l d = 0
      · refine Ev.congr (fun k => (oif_neg (bne0 c1)).trans (by rw [valid_at', Sx.ob_eq, Option.bind_some])) ?_
        by_cases cx : it x = 0
        · obtain ⟨x1, x2⟩ := iok x cx
          refine Ev.congr (fun k => (oif_neg (by simp; omega)).trans (by rw [valid_at', Sx.ob_eq, Option.bind_some])) ?_
          by_cases cy : it y = 0
          · obtain ⟨y1, y2⟩ := iok y cy
            have e : ce m b l d g x y wd = if g < 0 ∨ g > 999999999 ∨ wd < 1 ∨ x > y then 1 else 0 := by unfold ce; simp [c1, cx, cy]
            rw [e] at c0 ⊢
            refine ev_some 0 fun k => ?_
            simp only [Sx.oif_eq, decide_eq_true_eq]
            rw [if_neg (by simp; omega)]
            by_cases d1 : g < 0
            · simp [d1]
            by_cases d2 : g ≥ 1000000000
            · have : g > 999999999 := by omega
              simp [d1, d2, this]
            by_cases d3 : wd < 1
            · simp [d1, d2, d3]
            by_cases d4 : x > y
            · simp [d1, d2, d3, d4]
            · exact absurd (if_neg (by omega)) c0
          · have e : ce m b l d g x y wd = 3 := by unfold ce; simp [c1, cx, cy]
            rw [e]
            have := iz y cy
            exact ev_some 0 fun k => oif_pos (by simp; omega)
        · have e : ce m b l d g x y wd = 3 := by unfold ce; simp [c1, cx]
          rw [e]
          have := iz x cx
          exact ev_some 0 fun k => oif_pos (by simp; omega)
      · have e : ce m b l d g x y wd = se m b l d := by unfold ce; simp [c1]
        rw [e]
        exact ev_some 0 fun k => oif_pos (bne1 c1)
    refine law 0 0 _ hcr (ev_some 1 fun k => ?_)
    rw [ephemerislaw2_SeriesCrosses.j3, if_neg c0, none_at]; rfl
end Go.Proofs.Ytelcegpaakbppaa.Pure
