/- season.Next: the sun passes a longitude within the interval that it tells. -/
import Derived.Test.YtmahlfjnejbcnaaTopSeasonsn35
import Derived.Test.YtmahlfjnejbcnaaTopSeasonsn36
namespace Go.Proofs.Ytmahlfjnejbcnaa.SunT
open Go Go.RowKit YtmahlfjnejbcnaaW.PrintWords YtmahlfjnejbcnaaW.PrintLast YtmahlfjnejbcnaaW.PrintMore Opn PAll Base OctT SinT Circ Over RefT Args SumsT Vals AmpT SlpT PhaseT
set_option linter.unusedVariables false
set_option linter.unusedSimpArgs false
theorem sun_ang {t : Int} (h : it t = 0) {ds : Int} (hs : Dp sL t ds) : ∃ al ah, Ev (fun k => series_Angle.f k 775342092 2737909333333 sL 2000 t) (al, ah, 0) ∧ Ev (fun k => sun_Longitude.f k t) (al, ah, 0) ∧ 0 ≤ al ∧ al < 1000000000 ∧ ah - al ≤ 4005 ∧ al + 4000 ≤ ah ∧
  ∃ z : Int, al * 1048576 + 2000 * 1048576 ≤ Ws t ds + z * 1048576000000000 + 160 ∧ Ws t ds + z * 1048576000000000 + 2000 * 1048576 ≤ ah * 1048576 + 160 := by
 have e : st2 775342092 2737909333333 sL 2000 t = it t := if_pos (by decide)
 obtain ⟨al, ah, w, e1, e2, a0, a1, r1, r2, z, z1, z2⟩ := angle_ev (m := 775342092) (b := 2737909333333) (l := sL) (d := 2000) (t := t) (by rw [e]; exact h)
 have q : qs sL = 4 := by decide
 rw [q] at r1
 have b := sL_bd h hs
 have e3 := whole_ev (m := 775342092) (b := 2737909333333) (d := 2000) (l := sL) (by decide) h hs (by omega)
 have u := ev_uniq e2 e3
 have hw : 775342092 * 1048576 + ds + U 2737909333333 t = Ws t ds := rfl
 rw [hw] at u
 generalize Ws t ds = W at *
 refine ⟨al, ah, e1, ?_, a0, a1, by omega, by omega, ?_⟩
 ·unfold sun_Longitude.f sun_Series.f
  refine Ev.congr (fun k => Option.bind_some _ _) ?_
  exact ev_bind e1 (ev_some 0 fun k => rfl)
 ·exact ⟨z + (w - W) / 1048576000000000, by omega, by omega⟩
def Y (z lon t ds : Int) : Int := Ws t ds + z * 1048576000000000 - lon * 1048576
theorem sg_Y {al ah z z' lon E x : Int} (hx : x = E + z * 1048576000000000 - lon * 1048576) (x1 : -100000000 * 1048576 ≤ x) (x2 : x ≤ 100000000 * 1048576) (a3 : ah - al ≤ 4005) (a4 : al + 4000 ≤ ah)
  (z1 : al * 1048576 + 2000 * 1048576 ≤ E + z' * 1048576000000000 + 160) (z2 : E + z' * 1048576000000000 + 2000 * 1048576 ≤ ah * 1048576 + 160) :
  (sg al ah (lon % 1000000000) < 0 → x + 2000 * 1048576 ≤ -1048576 + 160) ∧ (¬ sg al ah (lon % 1000000000) < 0 → -(2005 * 1048576 + 160) ≤ x) ∧ (sg al ah (lon % 1000000000) > 0 → 1048576 + 2000 * 1048576 - 160 ≤ x) ∧ (¬ sg al ah (lon % 1000000000) > 0 → x ≤ 2005 * 1048576 + 160) := by
 have e : (al - lon % 1000000000 + 500000000) % 1000000000 - 500000000 = al - lon - (z' - z) * 1000000000 := by omega
 unfold sg
 rw [e]
 by_cases c1 : al - lon - (z' - z) * 1000000000 > 0 ∧ al - lon - (z' - z) * 1000000000 + ah - al < 500000000
 ·rw [if_pos c1]
  refine ⟨fun h => by omega, fun _ => by omega, fun _ => by omega, fun h => by omega⟩
 ·rw [if_neg c1]
  by_cases c2 : al - lon - (z' - z) * 1000000000 + ah - al < 0 ∧ al - lon - (z' - z) * 1000000000 > -500000000
  ·rw [if_pos c2]
   refine ⟨fun _ => by omega, fun h => by omega, fun h => by omega, fun _ => by omega⟩
  ·rw [if_neg c2]
   refine ⟨fun h => by omega, fun _ => by omega, fun h => by omega, fun _ => by omega⟩
theorem Y_rate {z lon t t' ds ds' : Int} (h : it t = 0) (h' : it t' = 0) (hs : Dp sL t ds) (hs' : Dp sL t' ds') :
  (Y z lon t' ds' - Y z lon t ds) * 86400000000000 ≤ (2737909333333 * (t' - t) + 10747760 * 86400000000000) * 1048576 ∧ (2737909333333 * (t' - t) - 10747760 * 86400000000000) * 1048576 ≤ (Y z lon t' ds' - Y z lon t ds) * 86400000000000 := by
 have b := sL_bd h hs
 have b' := sL_bd h' hs'
 have u := U_near 2737909333333 t
 have u' := U_near 2737909333333 t'
 unfold Y Ws
 generalize U 2737909333333 t = v at *
 generalize U 2737909333333 t' = v' at *
 constructor <;> omega
theorem Y_slope {z lon t t' ds ds' : Int} (h : it t = 0) (h' : it t' = 0) (le : t ≤ t') (hs : Dp sL t ds) (hs' : Dp sL t' ds') : 30000 * (t' - t) * 1048576 ≤ (Y z lon t' ds' - Y z lon t ds) * 1000000 + 100000 * 1000000 := by
 have et : t' = t + (t' - t) := by omega
 have b := (dp_pair h h' le sL_good.1 sL_good.2 hs hs').2
 have u := U_near 2737909333333 t
 have u' := U_near 2737909333333 t'
 have b0 : 0 ≤ t' - t := by omega
 generalize t' - t = d at *
 simp only [cs, sL, lip, ab] at b
 simp (decide := true) only [if_true, if_false] at b
 unfold Y Ws
 generalize U 2737909333333 t = v at *
 generalize U 2737909333333 t' = v' at *
 omega
theorem arg_year {r t d y : Int} (z : Int) (d0 : z * 86400000000000000000000 ≤ r * d) (d1 : r * d ≤ z * 86400000000000000000000 + y * 86400000) (ph : Int) : ∃ a b : Int, S (arg r t + ph * 1000000) = S a ∧ S (arg r (t + d) + ph * 1000000) = S b ∧ (a ≤ b ∧ b - a ≤ y + 1 ∨ b ≤ a ∧ a - b ≤ y + 1) := by
 unfold arg
 have e : r * (t + d) = r * t + r * d := Int.mul_add _ _ _
 rw [e]
 generalize r * t = X at *
 generalize r * d = Y at *
 refine ⟨X / 86400000 + ph * 1000000, (X + Y) / 86400000 - z * 1000000000000000 + ph * 1000000, S_per (by omega), S_per (by omega), ?_⟩
 left
 omega
theorem sun_year {t t' : Int} (h : it t = 0) (h' : it t' = 0) (d1 : 31700160000 ≤ t' - t) (d2 : t' - t ≤ 32486400000) {a b : Int} (ha : Dp sL t a) (hb : Dp sL t' b) : -1100000 * 1048576 ≤ b - a := by
 obtain ⟨t1, t2⟩ := it_zero h
 obtain ⟨t3, t4⟩ := it_zero h'
 have e : t + (t' - t) = t' := by omega
 have k := (dp_two (t := t) (t' := t') (c := fun x => if x.f2 = 2737778555556 then (983000000 * 1048576 + 2930000) / 1000 else (20600000 * 1048576 + 2930000) / 1000) sL_good.1 sL_good.2 (fun x hx => ?_) ha hb).2
 ·have c : cs (fun x : S71 => if x.f2 = 2737778555556 then (983000000 * 1048576 + 2930000) / 1000 else (20600000 * 1048576 + 2930000) / 1000) sL = 1052348859 + 5860 + 0 * 0 + (cs (fun x : S71 => if x.f2 = 2737778555556 then (983000000 * 1048576 + 2930000) / 1000 else (20600000 * 1048576 + 2930000) / 1000) sL - 1052348859 - 5860) := by omega
  have c2 : cs (fun x : S71 => if x.f2 = 2737778555556 then (983000000 * 1048576 + 2930000) / 1000 else (20600000 * 1048576 + 2930000) / 1000) sL ≤ 1100000 * 1048576 := by decide
  omega
 ·have hx2 : x = ⟨5318339, 84888545, 2737778555556⟩ ∨ x = ⟨55536, 169777090, 5475557111112⟩ := by
   simpa [sL] using hx
  rcases hx2 with rfl | rfl
  ·have p := pair_ev (x := (⟨5318339, 84888545, 2737778555556⟩ : S71)) (by decide) (t := t) (t' := t') (D := 29412000000000 + 1) (m := 983000000) t1 t2 t3 t4 (by decide) (by
    have := arg_year (r := 2737778555556) (t := t) (d := t' - t) (y := 29412000000000) 1 (by omega) (by omega) 84888545
    rw [e] at this
    exact this) (by decide) (by decide +kernel)
   exact p
  ·have p := pair_ev (x := (⟨55536, 169777090, 5475557111112⟩ : S71)) (by decide) (t := t) (t' := t') (D := 58820000000000 + 1) (m := 20600000) t1 t2 t3 t4 (by decide) (by
    have := arg_year (r := 5475557111112) (t := t) (d := t' - t) (y := 58820000000000) 2 (by omega) (by omega) 169777090
    rw [e] at this
    exact this) (by decide) (by decide +kernel)
   exact p
theorem Y_year {z lon t t' ds ds' : Int} (h : it t = 0) (h' : it t' = 0) (d1 : 31700160000 ≤ t' - t) (d2 : t' - t ≤ 32486400000) (hs : Dp sL t ds) (hs' : Dp sL t' ds') :
  (2737909333333 * (t' - t) - 1100010 * 86400000000000) * 1048576 ≤ (Y z lon t' ds' - Y z lon t ds) * 86400000000000 := by
 have b := sun_year h h' d1 d2 hs hs'
 have u := U_near 2737909333333 t
 have u' := U_near 2737909333333 t'
 unfold Y Ws
 generalize U 2737909333333 t = v at *
 generalize U 2737909333333 t' = v' at *
 omega
def STells (M z lon t v : Int) : Prop := ∃ ds, Dp sL t ds ∧ -M * 1048576 ≤ Y z lon t ds ∧ Y z lon t ds ≤ M * 1048576 ∧ (v < 0 → Y z lon t ds + 2000 * 1048576 ≤ -1048576 + 160) ∧ (¬ v < 0 → -(2005 * 1048576 + 160) ≤ Y z lon t ds) ∧ (v > 0 → 1048576 + 2000 * 1048576 - 160 ≤ Y z lon t ds) ∧ (¬ v > 0 → Y z lon t ds ≤ 2005 * 1048576 + 160) ∧ Ev (fun k => Sx.ob (sun_Longitude.f k t) fun q => Sx.ob (series_After.f k q.fst q.snd.fst (lon % 1000000000)) fun z => some z) v
theorem ssign_ev {M z lon t ds : Int} (hM : M ≤ 100000000) (h : it t = 0) (hs : Dp sL t ds) (y1 : -M * 1048576 ≤ Y z lon t ds) (y2 : Y z lon t ds ≤ M * 1048576) : ∃ al ah v, Ev (fun k => series_Angle.f k 775342092 2737909333333 sL 2000 t) (al, ah, 0) ∧ Ev (fun k => sun_Longitude.f k t) (al, ah, 0) ∧ Ev (fun k => series_After.f k al ah (lon % 1000000000)) v ∧ STells M z lon t v := by
 obtain ⟨al, ah, e1, e1', a0, a1, a2, a3, z', z1, z2⟩ := sun_ang h hs
 have ea := after_ev (al := al) (ah := ah) (g := lon % 1000000000) a0 a1 (by omega) (by omega) (by omega) (by omega)
 obtain ⟨f1, f2, f3, f4⟩ := sg_Y (x := Y z lon t ds) (E := Ws t ds) (z := z) (lon := lon) rfl (by omega) (by omega) a2 a3 z1 z2
 exact ⟨al, ah, sg al ah (lon % 1000000000), e1, e1', ea, ds, hs, y1, y2, f1, f2, f3, f4, ob_ev e1' (ob_ev ea (ev_some 0 fun k => rfl))⟩
theorem szone {M z lon a b v w : Int} (ha' : it a = 0) (hb' : it b = 0) (ha : STells M z lon a v) (hb : STells M z lon b w) (hv : ¬ v < 0) (hw : ¬ w > 0) : b - a ≤ 140000 := by
 by_cases le : a ≤ b
 ·obtain ⟨ds, hs, _, _, _, f1, _, _⟩ := ha
  obtain ⟨ds', hs', _, _, _, _, _, f2, _⟩ := hb
  have s := Y_slope (z := z) (lon := lon) ha' hb' le hs hs'
  have g1 := f1 hv
  have g2 := f2 hw
  generalize Y z lon a ds = x at *
  generalize Y z lon b ds' = y at *
  omega
 ·omega
theorem slope_sun : Ev (fun k => series_Slope.f k 775342092 2737909333333 sL 2000) (2644464, 2831355, 0) := Ev.of (series_Slope.mono _ _ _ _) (k := 20) (by decide +kernel)
def Neg (lon t : Int) : Prop := ∃ al ah, Ev (fun k => series_Angle.f k 775342092 2737909333333 sL 2000 t) (al, ah, 0) ∧ 0 ≤ al ∧ al < 1000000000 ∧ al ≤ ah ∧ ah ≤ al + 1000000000 ∧ sg al ah (lon % 1000000000) < 0
theorem neg_of {z lon t ds : Int} (h : it t = 0) (hs : Dp sL t ds) (y1 : -100000000 * 1048576 ≤ Y z lon t ds) (y2 : Y z lon t ds < -3000 * 1048576) : Neg lon t := by
 obtain ⟨al, ah, e1, _, a0, a1, a2, a3, z', z1, z2⟩ := sun_ang h hs
 obtain ⟨_, f, _, _⟩ := sg_Y (x := Y z lon t ds) (E := Ws t ds) (z := z) (lon := lon) rfl y1 (by omega) a2 a3 z1 z2
 refine ⟨al, ah, e1, a0, a1, by omega, by omega, ?_⟩
 rcases Int.lt_or_le (sg al ah (lon % 1000000000)) 0 with c | c
 ·exact c
 ·have := f (by omega)
  omega
theorem cross_ev {z lon A B : Int} (hA : it A = 0) (hB : it B = 0) (AB : A ≤ B) {ds : Int} (hs : Dp sL A ds) (y1 : -90000000 * 1048576 ≤ Y z lon A ds) (y2 : Neg lon A) {ds' : Int} (hs' : Dp sL B ds') (y3 : 3000 * 1048576 < Y z lon B ds') (y4 : Y z lon B ds' ≤ 90000000 * 1048576) :
  ∃ x y v w, Ev (fun k => series_Cross.f k 775342092 2737909333333 sL 2000 (lon % 1000000000) A B 600000) (x, y, 0) ∧ A ≤ x ∧ x ≤ y ∧ y ≤ B ∧ y - x ≤ 600000 ∧ STells 95000000 z lon x v ∧ v < 0 ∧ STells 95000000 z lon y w ∧ 0 < w := by
 obtain ⟨a1, a2⟩ := it_zero hA
 obtain ⟨b1, b2⟩ := it_zero hB
 have ex : ∀ t, ∃ v, A ≤ t → t ≤ B → Ev (fun k => Sx.ob (series_Angle.f k 775342092 2737909333333 sL 2000 t) fun q => Sx.ob (series_After.f k q.fst q.snd.fst (lon % 1000000000)) fun z => some z) v ∧ STells 95000000 z lon t v := by
  intro t
  by_cases c : A ≤ t ∧ t ≤ B
  ·have ht : it t = 0 := if_pos ⟨by omega, by omega⟩
   obtain ⟨dt, _, _, htd⟩ := sL_ex ht
   have s1 := Y_slope (z := z) (lon := lon) hA ht c.1 hs htd
   have s2 := Y_slope (z := z) (lon := lon) ht hB c.2 htd hs'
   obtain ⟨al, ah, v, e1, _, e2, e3⟩ := ssign_ev (M := 95000000) (z := z) (lon := lon) (by omega) ht htd (by generalize Y z lon t dt = p at *; generalize Y z lon A ds = q at *; omega) (by generalize Y z lon t dt = p at *; generalize Y z lon B ds' = q at *; omega)
   exact ⟨v, fun _ _ => ⟨ob_ev e1 (ob_ev e2 (ev_some 0 fun k => rfl)), e3⟩⟩
  ·exact ⟨0, fun a b => absurd ⟨a, b⟩ c⟩
 obtain ⟨σ, hσ⟩ := Classical.axiomOfChoice ex
 have s1 := hσ A (by omega) AB
 have s2 := hσ B AB (by omega)
 have n1 : σ A < 0 := by
  obtain ⟨al, ah, e, a0, a1, a2, a3, hn⟩ := y2
  rw [ev_uniq s1.1 (ob_ev e (ob_ev (after_ev a0 a1 a2 a3 (by omega) (by omega)) (ev_some 0 fun k => rfl)))]
  exact hn
 have n2 : σ B > 0 := by
  obtain ⟨d, hd, _, _, _, _, _, f, _⟩ := s2.2
  rw [dp_uniq sL_good.1 hd hs'] at f
  rcases Int.lt_or_le 0 (σ B) with c | c
  ·exact c
  ·have := f (by omega)
   omega
 obtain ⟨x, y, en, g1, g2, g3, g4, g5, g6⟩ := NarC.nar_ok (s := fun k t => Sx.ob (series_Angle.f k 775342092 2737909333333 sL 2000 t) fun q => Sx.ob (series_After.f k q.fst q.snd.fst (lon % 1000000000)) fun z => some z) (σ := σ) (A0 := A) (B0 := B) (wd := 600000) (Z := 140000) (a := A) (b := B) (by omega) (by omega) (fun t h1 h2 => (hσ t h1 h2).1) (by omega) AB (by omega) (by omega) n1 n2 (by omega)
  (fun a b a1 a2 b1 b2 hv hw => szone (z := z) (lon := lon) (if_pos ⟨by omega, by omega⟩) (if_pos ⟨by omega, by omega⟩) (hσ a a1 a2).2 (hσ b b1 b2).2 hv hw)
 refine ⟨x, y, σ x, σ y, ?_, g1, g2, g3, g4, (hσ x g1 (by omega)).2, g5, (hσ y (by omega) g3).2, g6⟩
 have ends : ∀ (t : Int), A ≤ t → t ≤ B → ∀ (F : Nat → Int → Option (Int × Int × Int)) (r : Int × Int × Int), Ev (fun k => F k (σ t)) r →
   Ev (fun k => Sx.ob (series_Angle.f k 775342092 2737909333333 sL 2000 t) fun q => Sx.ob (series_After.f k q.fst q.snd.fst (lon % 1000000000)) fun z => F k z) r := by
  intro t t1 t2 F r hF
  obtain ⟨K1, hK1⟩ := (hσ t t1 t2).1
  obtain ⟨K2, hK2⟩ := hF
  refine ⟨K1 + K2, fun k hk => ?_⟩
  have h1 := hK1 k (by omega)
  have h2 := hK2 k (by omega)
  simp only [Sx.ob_eq] at h1 ⊢
  cases hq : series_Angle.f k 775342092 2737909333333 sL 2000 t with
  | none => rw [hq] at h1; cases h1
  | some q =>
   rw [hq, Option.bind_some] at h1
   rw [Option.bind_some]
   cases hz : series_After.f k q.fst q.snd.fst (lon % 1000000000) with
   | none => rw [hz] at h1; cases h1
   | some z =>
    rw [hz, Option.bind_some] at h1
    rw [Option.bind_some]
    cases h1
    exact h2
 have c1 : se 775342092 2737909333333 sL 2000 = 0 := by decide
 unfold series_Cross.f
 have ck := check_ev 775342092 2737909333333 sL 2000
 rw [c1] at ck
 refine ob_ev ck ?_
 refine Ev.congr (fun k => (oif_neg (bne0 rfl)).trans (by rw [valid_at, Sx.ob_eq, Option.bind_some])) ?_
 refine Ev.congr (fun k => (oif_neg (by simp; omega)).trans (by rw [valid_at, Sx.ob_eq, Option.bind_some])) ?_
 refine Ev.congr (fun k => (oif_neg (by simp; omega)).trans ((oif_neg (by simp; omega)).trans ((oif_neg (by simp; omega)).trans ((oif_neg (by simp)).trans (oif_neg (by simp; omega)))))) ?_
 refine ob_ev slope_sun ?_
 refine Ev.congr (fun k => oif_neg (by simp)) ?_
 refine ends A (by omega) AB (fun k t6 => _) _ ?_
 refine Ev.congr (fun k => oif_neg (by simp; omega)) ?_
 refine ends B AB (by omega) (fun k t8 => _) _ ?_
 refine Ev.congr (fun k => oif_neg (by simp; omega)) ?_
 exact ob_ev en (ev_some 0 fun k => rfl)
theorem next_ev {lon t : Int} (l0 : 0 ≤ lon) (l1 : lon < 1000000000) (h1 : it (t - 1728000000) = 0) (h2 : it (t + 34560000000) = 0) : ∃ al ah ds D z, Ev (fun k => sun_Longitude.f k t) (al, ah, 0) ∧ 0 ≤ al ∧ al < 1000000000 ∧ ah - al ≤ 4005 ∧ al + 4000 ≤ ah ∧ D = (lon - al) % 1000000000 ∧ Dp sL t ds ∧
  al * 1048576 + 2000 * 1048576 ≤ Ws t ds + z * 1048576000000000 + 160 ∧ Ws t ds + z * 1048576000000000 + 2000 * 1048576 ≤ ah * 1048576 + 160 ∧
  (D ≤ ah - al → Ev (fun k => season_Next.f k lon t) (0, 0, 11)) ∧
  (ah - al < D → ∃ x y v w, Ev (fun k => season_Next.f k lon t) (x, y, 0) ∧ t ≤ x ∧ t + D * 1000 / 2737909 * 86400 - 864000000 ≤ x ∧ x ≤ y ∧ y ≤ t + D * 1000 / 2737909 * 86400 + 864000000 ∧ y < t + 31708800000 ∧ y - x ≤ 600000 ∧ STells 95000000 z (al + D) x v ∧ v < 0 ∧ STells 95000000 z (al + D) y w ∧ 0 < w) := by
 obtain ⟨p1, p2⟩ := it_zero h1
 obtain ⟨p3, p4⟩ := it_zero h2
 have ht : it t = 0 := if_pos ⟨by omega, by omega⟩
 obtain ⟨ds, _, _, hs⟩ := sL_ex ht
 obtain ⟨al, ah, ea, el, a0, a1, a2, a3, z, z1, z2⟩ := sun_ang ht hs
 obtain ⟨D, hD⟩ : ∃ D, D = (lon - al) % 1000000000 := ⟨_, rfl⟩
 have D0 : 0 ≤ D ∧ D < 1000000000 := by omega
 refine ⟨al, ah, ds, D, z, el, a0, a1, a2, a3, hD, hs, z1, z2, ?_⟩
 have pre : ∀ r, Ev (fun k => season_Next.l0 k (al + D) t al ah) r → Ev (fun k => season_Next.f k lon t) r := by
  intro r hr
  have w1 : wrap64 (t - 1728000000) = t - 1728000000 := w64 (by omega) (by omega)
  have w2 : wrap64 (t + 34560000000) = t + 34560000000 := w64 (by omega) (by omega)
  unfold season_Next.f
  refine ev_step 2 (fun k => by rw [if_neg (by omega), decide_eq_false (show ¬ lon ≥ 1000000000 by omega), season_Next.j0, if_neg (by simp), w1, valid_at, decide_eq_true ⟨p1, p2⟩, Option.bind_some, if_pos rfl, w2, valid_at, decide_eq_true ⟨p3, p4⟩, Option.bind_some, Bool.not_true, season_Next.j1, if_neg (by simp)]) ?_
  refine ev_bind el ?_
  dsimp only
  by_cases c : lon < al
  ·have e : al + D = lon + 1000000000 := by omega
   rw [e] at hr
   exact ev_step 1 (fun k => by rw [season_Next.l0, if_pos c, w64 (x := lon + 1000000000) (by omega) (by omega)]) hr
  ·have e : al + D = lon := by omega
   rw [e] at hr
   exact hr
 have em : Int.tmod (al + D) 1000000000 = (al + D) % 1000000000 := Int.tmod_eq_emod_of_nonneg (by omega)
 refine ⟨fun c => pre _ (ev_some 1 fun k => by rw [season_Next.l0, if_neg (by omega), if_pos (by omega)]), fun c => ?_⟩
 obtain ⟨q, hq⟩ : ∃ q, q = D * 1000 / 2737909 := ⟨_, rfl⟩
 rw [← hq]
 have q0 : 0 ≤ q ∧ q ≤ 365242 := by omega
 obtain ⟨A, hA⟩ : ∃ A, A = mx t (t + q * 86400 - 864000000) := ⟨_, rfl⟩
 have A1 : t ≤ A ∧ t + q * 86400 - 864000000 ≤ A ∧ (A = t ∨ A = t + q * 86400 - 864000000) := by
  rw [hA]; unfold mx; split <;> omega
 obtain ⟨B, hB⟩ : ∃ B, B = t + q * 86400 + 864000000 := ⟨_, rfl⟩
 have vA : it A = 0 := if_pos ⟨by omega, by omega⟩
 have vB : it B = 0 := if_pos ⟨by omega, by omega⟩
 obtain ⟨da, _, _, hda⟩ := sL_ex vA
 obtain ⟨db, _, _, hdb⟩ := sL_ex vB
 have y0 : Y z (al + D) t ds ≤ (2005 - D) * 1048576 + 160 ∧ (2000 - D) * 1048576 - 160 ≤ Y z (al + D) t ds := by
  unfold Y; omega
 have yA := Y_rate (z := z) (lon := al + D) ht vA hs hda
 have yB := Y_rate (z := z) (lon := al + D) ht vB hs hdb
 have rA1 : -90000000 * 1048576 ≤ Y z (al + D) A da := by
  generalize Y z (al + D) t ds = u0 at *
  generalize Y z (al + D) A da = u1 at *
  omega
 have rA2 : Neg (al + D) A := by
  by_cases e : A = t
  ·rw [e]
   refine ⟨al, ah, ea, a0, a1, by omega, by omega, ?_⟩
   have e2 : (al - (al + D) % 1000000000 + 500000000) % 1000000000 - 500000000 = -D := by omega
   unfold sg
   rw [e2, if_neg (by omega), if_pos (by omega)]
   omega
  ·refine neg_of (z := z) vA hda (by omega) ?_
   generalize Y z (al + D) t ds = u0 at *
   generalize Y z (al + D) A da = u1 at *
   omega
 have rB : 3000 * 1048576 < Y z (al + D) B db ∧ Y z (al + D) B db ≤ 90000000 * 1048576 := by
  generalize Y z (al + D) t ds = u0 at *
  generalize Y z (al + D) B db = u1 at *
  omega
 obtain ⟨x, y, v, w, ec, x1, xy, x2, wd, tx, v0, ty, w0⟩ := cross_ev (z := z) (lon := al + D) vA vB (by omega) hda rA1 rA2 hdb rB.1 rB.2
 have y367 : y < t + 31708800000 := by
  rcases Int.lt_or_le y (t + 31708800000) with c2 | c2
  ·exact c2
  ·have vx : it x = 0 := if_pos ⟨by omega, by omega⟩
   obtain ⟨dx, hdx, _, _, f, _⟩ := tx
   have f := f v0
   have r := Y_year (z := z) (lon := al + D) ht vx (by omega) (by omega) hs hdx
   generalize Y z (al + D) t ds = u0 at *
   generalize Y z (al + D) x dx = u1 at *
   omega
 refine ⟨x, y, v, w, pre _ ?_, by omega, by omega, xy, by omega, y367, wd, tx, v0, ty, w0⟩
 have e5 : al + D - al = D := by omega
 refine ev_step 1 (fun k => by rw [season_Next.l0, if_neg (by omega), if_neg (by omega), em, e5, w64 (x := D) (by omega) (by omega), w64 (x := D * 1000) (by omega) (by omega), Int.tdiv_eq_ediv_of_nonneg (by omega), ← hq, w64 (x := q) (by omega) (by omega), w64 (x := q * 86400) (by omega) (by omega), w64 (x := t + q * 86400) (by omega) (by omega), w64 (x := t + q * 86400 - 864000000) (by omega) (by omega), w64 (x := t + q * 86400 + 864000000) (by omega) (by omega), ← hA, ← hB]) ?_
 unfold sun_Series.f
 refine Ev.congr (fun k => Option.bind_some _ _) ?_
 exact ev_bind ec (ev_some 0 fun k => rfl)
end Go.Proofs.Ytmahlfjnejbcnaa.SunT
