/- sharpen.Season, sharpen.Phase and sharpen.Earlier. -/
import Derived.Test.YtmahlfjnejbcnaaSharpenDecidesn43
import Derived.Test.YtmahlfjnejbcnaaSharpenDecidesn44
import Derived.Test.YtmahlfjnejbcnaaSharpenDecidesn45
import Derived.Test.YtmahlfjnejbcnaaSharpenDecidesn46
namespace Go.Proofs.Ytmahlfjnejbcnaa.SharpT
open Go Go.RowKit YtmahlfjnejbcnaaW.PrintWords YtmahlfjnejbcnaaW.PrintLast YtmahlfjnejbcnaaW.PrintMore PAll Base SinT Over RefT Units SumsT Vals SkyT AmpT SlpT PhaseT SunT YearT
set_option linter.unusedVariables false
set_option linter.unusedSimpArgs false
theorem sharpen_works : Ev (fun k => ephemerislaw2_sharpenWorks.f k) true := Ev.of ephemerislaw2_sharpenWorks.mono (k := 100) (by decide +kernel)
theorem ny_bound {y : Int} (h1 : -10000 ≤ y) (h2 : y ≤ 10000) : -3660000 ≤ ny y ∧ ny y ≤ 3660000 := by
 unfold ny; omega
theorem sfind_arg {q y : Int} (h : q < 0 ∨ 3 < q) : Ev (fun k => season_Find.f k q y) (0, 0, 1) := by
 unfold season_Find.f
 refine ev_some 1 fun k => ?_
 by_cases c : q < 0
 ·rw [if_pos c, season_Find.j0, if_pos rfl]
 ·rw [if_neg c, decide_eq_true (by omega), season_Find.j0, if_pos rfl]
theorem sfind_range {q y : Int} (q1 : 0 ≤ q) (q2 : q ≤ 3) (h : y < -10000 ∨ 10000 < y) : Ev (fun k => season_Find.f k q y) (0, 0, 3) := by
 unfold season_Find.f
 refine ev_some 2 fun k => ?_
 rw [if_neg (by omega), decide_eq_false (show ¬ q > 3 by omega), season_Find.j0, if_neg (by simp)]
 by_cases c : y < -10000
 ·rw [if_pos c, season_Find.j1, if_pos rfl]
 ·rw [if_neg c, decide_eq_true (by omega), season_Find.j1, if_pos rfl]
theorem new_year {y al ah ds z : Int} (h1 : -10000 ≤ y) (h2 : y ≤ 10000) (h : it (ny y * 86400000) = 0) (hs : Dp sL (ny y * 86400000) ds) (a0 : 0 ≤ al) (a1 : al < 1000000000)
  (a2 : ah - al ≤ 4005) (z1 : al * 1048576 + 2000 * 1048576 ≤ Ws (ny y * 86400000) ds + z * 1048576000000000 + 160) (z2 : Ws (ny y * 86400000) ds + z * 1048576000000000 + 2000 * 1048576 ≤ ah * 1048576 + 160) : 755000000 ≤ al ∧ al ≤ 800000000 := by
 have b := sL_bd h hs
 have u := U_near 2737909333333 (ny y * 86400000)
 unfold Ws at z1 z2
 generalize U 2737909333333 (ny y * 86400000) = v at *
 unfold ny at u
 clear hs h
 have m : (-12000000 + (y - 1) * 1000000000) * 1048576 ≤ v ∧ v ≤ (16000000 + (y - 1) * 1000000000) * 1048576 := by
  clear z1 z2 b
  constructor <;> omega
 clear u
 have hz : z = -(y - 1) := by omega
 subst hz
 constructor <;> omega
theorem sfind_ev {q y : Int} (q1 : 0 ≤ q) (q2 : q ≤ 3) (h1 : -10000 ≤ y) (h2 : y ≤ 10000) : ∃ x w lon z v u, Ev (fun k => season_Find.f k q y) (x, w, 0) ∧ lon % 1000000000 = q * 250000000 ∧ ny y * 86400000 < x ∧ x ≤ w ∧ w < ny y * 86400000 + 31708800000 ∧ w - x ≤ 600000 ∧ STells 95000000 z lon x v ∧ v < 0 ∧ STells 95000000 z lon w u ∧ 0 < u := by
 obtain ⟨n1, n2⟩ := ny_bound h1 h2
 have it1 : it (ny y * 86400000 - 1728000000) = 0 := if_pos ⟨by omega, by omega⟩
 have it2 : it (ny y * 86400000 + 34560000000) = 0 := if_pos ⟨by omega, by omega⟩
 have it0 : it (ny y * 86400000) = 0 := if_pos ⟨by omega, by omega⟩
 obtain ⟨al, ah, ds, D, z, el, a0, a1, a2, a3, hD, hs, z1, z2, _, yes⟩ := next_ev (lon := q * 250000000) (t := ny y * 86400000) (by omega) (by omega) it1 it2
 obtain ⟨s1, s2⟩ := new_year h1 h2 it0 hs a0 a1 a2 z1 z2
 have hq : q = 0 ∨ q = 1 ∨ q = 2 ∨ q = 3 := by omega
 have hD2 : 195000000 ≤ D := by rcases hq with rfl | rfl | rfl | rfl <;> omega
 obtain ⟨x, w, v, u, en, x0, x1, xw, w1, w2, wd, tx, vn, tw, up⟩ := yes (by omega)
 have hq : 70000 ≤ D * 1000 / 2737909 := by omega
 refine ⟨x, w, al + D, z, v, u, ?_, by omega, by omega, xw, by omega, wd, tx, vn, tw, up⟩
 unfold season_Find.f
 refine ev_step 2 (fun k => by rw [if_neg (by omega), decide_eq_false (show ¬ q > 3 by omega), season_Find.j0, if_neg (by simp), if_neg (by omega), decide_eq_false (show ¬ y > 10000 by omega), season_Find.j1, if_neg (by simp), newYear_at k h1 h2, Option.bind_some, w64 (x := q * 250000000) (by omega) (by omega), w64 (x := ny y * 86400000) (by omega) (by omega)]) ?_
 exact ev_bind en (ev_some 0 fun k => rfl)
theorem sharp_season {q y wd a b lon z v u : Int} (hf : Ev (fun k => season_Find.f k q y) (a, b, 0)) (hl : lon % 1000000000 = q * 250000000) (q1 : 0 ≤ q) (q2 : q ≤ 3) (va : it a = 0) (vb : it b = 0) (hab : a ≤ b) (ta : STells 95000000 z lon a v) (v0 : v < 0) (tb : STells 95000000 z lon b u) (u0 : 0 < u) (hw : 1 ≤ wd) :
  ∃ x w e, Ev (fun k => sharpen_Season.f k q y wd) (x, w, e) ∧ (e = 0 ∧ a ≤ x ∧ x ≤ w ∧ w ≤ b ∧ w - x ≤ wd ∧ (∃ v, STells 98000000 z lon x v ∧ v < 0) ∧ (∃ u, STells 98000000 z lon w u ∧ 0 < u) ∨ e = 11 ∧ x = 0 ∧ w = 0 ∧ wd < 140002) ∧ (b - a ≤ wd → x = a ∧ w = b ∧ e = 0) := by
 obtain ⟨a1, a2⟩ := it_zero va
 obtain ⟨b1, b2⟩ := it_zero vb
 have go : ∀ r : Int × Int × Int, Ev (fun k => Nar36.f (fun p2 => Sx.ob (sun_Longitude.f k p2) fun t3 => Sx.ob (series_After.f k t3.fst t3.snd.fst (lon % 1000000000)) fun t4 => some t4) k a b wd) r → Ev (fun k => sharpen_Season.f k q y wd) r := by
  intro r hr
  unfold sharpen_Season.f
  refine ob_ev hf ?_
  refine Ev.congr (fun k => (oif_neg (bne0 rfl)).trans (oif_neg (by simp; omega))) ?_
  rw [iw, w64 (x := q * 250000000) (by omega) (by omega), ← hl]
  exact ob_ev hr (ev_some 0 fun k => rfl)
 by_cases ci : b - a ≤ wd
 ·refine ⟨a, b, 0, go _ (NarS.nar_id (s := fun k p2 => Sx.ob (sun_Longitude.f k p2) fun t3 => Sx.ob (series_After.f k t3.fst t3.snd.fst (lon % 1000000000)) fun t4 => some t4) hab (by omega) (by omega) ci), .inl ⟨rfl, by omega, hab, by omega, ci, ⟨v, ?_, v0⟩, ⟨u, ?_, u0⟩⟩, fun _ => ⟨rfl, rfl, rfl⟩⟩
  ·obtain ⟨d, hd, c1, c2, c3⟩ := ta
   exact ⟨d, hd, by omega, by omega, c3⟩
  ·obtain ⟨d, hd, c1, c2, c3⟩ := tb
   exact ⟨d, hd, by omega, by omega, c3⟩
 obtain ⟨da, hda, c1, c2, _, _, _, _, sa⟩ := ta
 obtain ⟨db, hdb, d1, d2, _, _, _, _, sb⟩ := tb
 have ex : ∀ t, ∃ v, a ≤ t → t ≤ b → Ev (fun k => Sx.ob (sun_Longitude.f k t) fun q => Sx.ob (series_After.f k q.fst q.snd.fst (lon % 1000000000)) fun z => some z) v ∧ STells 98000000 z lon t v := by
  intro t
  by_cases c : a ≤ t ∧ t ≤ b
  ·have ht : it t = 0 := if_pos ⟨by omega, by omega⟩
   obtain ⟨dt, _, _, htd⟩ := sL_ex ht
   have s1 := Y_slope (z := z) (lon := lon) va ht c.1 hda htd
   have s2 := Y_slope (z := z) (lon := lon) ht vb c.2 htd hdb
   obtain ⟨al, ah, v, _, e1, e2, e3⟩ := ssign_ev (M := 98000000) (z := z) (lon := lon) (by omega) ht htd (by generalize Y z lon t dt = p at *; generalize Y z lon a da = q at *; omega) (by generalize Y z lon t dt = p at *; generalize Y z lon b db = q at *; omega)
   exact ⟨v, fun _ _ => ⟨ob_ev e1 (ob_ev e2 (ev_some 0 fun k => rfl)), e3⟩⟩
  ·exact ⟨0, fun a b => absurd ⟨a, b⟩ c⟩
 obtain ⟨σ, hσ⟩ := Classical.axiomOfChoice ex
 have n1 : σ a < 0 := by rw [ev_uniq (hσ a (by omega) hab).1 sa]; exact v0
 have n2 : 0 < σ b := by rw [ev_uniq (hσ b hab (by omega)).1 sb]; exact u0
 obtain ⟨x, w, e, en, hen⟩ := NarS.nar_any (s := fun k t => Sx.ob (sun_Longitude.f k t) fun q => Sx.ob (series_After.f k q.fst q.snd.fst (lon % 1000000000)) fun z => some z) (σ := σ) (A0 := a) (B0 := b) (wd := wd) (Z := 140000) (a := a) (b := b) (by omega) (by omega) (fun t h1 h2 => (hσ t h1 h2).1) hw hab (by omega) (by omega) n1 n2
  (fun p q p1 p2 q1 q2 hv hw => szone (z := z) (lon := lon) (if_pos ⟨by omega, by omega⟩) (if_pos ⟨by omega, by omega⟩) (hσ p p1 p2).2 (hσ q q1 q2).2 hv hw)
 refine ⟨x, w, e, go _ en, ?_, fun h => absurd h ci⟩
 rcases hen with ⟨rfl, g1, g2, g3, g4, g5, g6⟩ | ⟨rfl, rfl, rfl, g⟩
 ·exact .inl ⟨rfl, g1, g2, g3, g4, ⟨_, (hσ x g1 (by omega)).2, g5⟩, ⟨_, (hσ w (by omega) g3).2, g6⟩⟩
 ·exact .inr ⟨rfl, rfl, rfl, by omega⟩
theorem sharp_season_err {q y wd x w e : Int} (hf : Ev (fun k => season_Find.f k q y) (x, w, e)) (he : e ≠ 0) : Ev (fun k => sharpen_Season.f k q y wd) (0, 0, e) := by
 unfold sharpen_Season.f
 exact ob_ev hf (ev_some 0 fun k => oif_pos (bne1 he))
theorem sharp_phase {L q wd a b v u : Int} (hf : Ev (fun k => phase_Find.f k L q) (a, b, 0)) (l1 : -100000 ≤ L) (l2 : L ≤ 100000) (q1 : 0 ≤ q) (q2 : q ≤ 3) (a1 : md L q - 172800000 ≤ a) (b1 : b ≤ md L q + 172800000) (hab : a ≤ b) (ta : Tells L q a v) (v0 : v < 0) (tb : Tells L q b u) (u0 : 0 < u) (hw : 1 ≤ wd) :
  ∃ x w e, Ev (fun k => sharpen_Phase.f k L q wd) (x, w, e) ∧ (e = 0 ∧ a ≤ x ∧ x ≤ w ∧ w ≤ b ∧ w - x ≤ wd ∧ (∃ v, Tells L q x v ∧ v < 0) ∧ (∃ u, Tells L q w u ∧ 0 < u) ∨ e = 11 ∧ x = 0 ∧ w = 0 ∧ wd < 140002) ∧ (b - a ≤ wd → x = a ∧ w = b ∧ e = 0) := by
 have mb : -256000000000000 ≤ md L q ∧ md L q ≤ 256000000000000 := by unfold md; omega
 have go : ∀ r : Int × Int × Int, Ev (fun k => Nar43.f (fun p2 => Sx.ob (phase_Sign.f k q p2) fun t3 => some t3) k a b wd) r → Ev (fun k => sharpen_Phase.f k L q wd) r := by
  intro r hr
  unfold sharpen_Phase.f
  refine ob_ev hf ?_
  refine Ev.congr (fun k => (oif_neg (bne0 rfl)).trans (oif_neg (by simp; omega))) ?_
  exact ob_ev hr (ev_some 0 fun k => rfl)
 by_cases ci : b - a ≤ wd
 ·exact ⟨a, b, 0, go _ (NarP.nar_id (s := fun k p2 => Sx.ob (phase_Sign.f k q p2) fun t3 => some t3) hab (by omega) (by omega) ci), .inl ⟨rfl, by omega, hab, by omega, ci, ⟨v, ta, v0⟩, ⟨u, tb, u0⟩⟩, fun _ => ⟨rfl, rfl, rfl⟩⟩
 have ex : ∀ t, ∃ v, a ≤ t → t ≤ b → Ev (fun k => Sx.ob (phase_Sign.f k q t) fun z => some z) v ∧ Tells L q t v := by
  intro t
  by_cases c : a ≤ t ∧ t ≤ b
  ·obtain ⟨v, h1, h2⟩ := sign_ev (L := L) (q := q) (t := t) (by omega) (by omega) q1 q2 (by omega) (by omega)
   exact ⟨v, fun _ _ => ⟨ob_ev h1 (ev_some 0 fun k => rfl), h2⟩⟩
  ·exact ⟨0, fun a b => absurd ⟨a, b⟩ c⟩
 obtain ⟨σ, hσ⟩ := Classical.axiomOfChoice ex
 obtain ⟨_, _, _, _, _, _, _, _, sa⟩ := ta
 obtain ⟨_, _, _, _, _, _, _, _, sb⟩ := tb
 have n1 : σ a < 0 := by rw [ev_uniq (hσ a (by omega) hab).1 (ob_ev sa (ev_some 0 fun k => rfl))]; exact v0
 have n2 : 0 < σ b := by rw [ev_uniq (hσ b hab (by omega)).1 (ob_ev sb (ev_some 0 fun k => rfl))]; exact u0
 obtain ⟨x, w, e, en, hen⟩ := NarP.nar_any (s := fun k t => Sx.ob (phase_Sign.f k q t) fun z => some z) (σ := σ) (A0 := a) (B0 := b) (wd := wd) (Z := 140000) (a := a) (b := b) (by omega) (by omega) (fun t h1 h2 => (hσ t h1 h2).1) hw hab (by omega) (by omega) n1 n2
  (fun c d c1 c2 d1 d2 hv hw => zone (L := L) (q := q) (by omega) (by omega) q1 q2 (by omega) (by omega) (by omega) (by omega) (hσ c c1 c2).2 (hσ d d1 d2).2 hv hw)
 refine ⟨x, w, e, go _ en, ?_, fun h => absurd h ci⟩
 rcases hen with ⟨rfl, g1, g2, g3, g4, g5, g6⟩ | ⟨rfl, rfl, rfl, g⟩
 ·exact .inl ⟨rfl, g1, g2, g3, g4, ⟨_, (hσ x g1 (by omega)).2, g5⟩, ⟨_, (hσ w (by omega) g3).2, g6⟩⟩
 ·exact .inr ⟨rfl, rfl, rfl, by omega⟩
theorem sharp_phase_err {L q wd x w e : Int} (hf : Ev (fun k => phase_Find.f k L q) (x, w, e)) (he : e ≠ 0) : Ev (fun k => sharpen_Phase.f k L q wd) (0, 0, e) := by
 unfold sharpen_Phase.f
 exact ob_ev hf (ev_some 0 fun k => oif_pos (bne1 he))
theorem earlier_ev (a b c d : Int) : Ev (fun k => sharpen_Earlier.f k a b c d) (if sp a b = 0 then (if sp c d = 0 then (if b < c then (-1, 0) else if a > d then (1, 0) else (0, 11)) else (0, sp c d)) else (0, sp a b)) := by
 unfold sharpen_Earlier.f
 refine ev_step 1 (fun k => by rw [sharpen_Earlier.l0, if_pos (by omega), if_pos (by omega)]) ?_
 refine ev_bind (a := sp a b) (interval_Check_ev a b) ?_
 by_cases z1 : sp a b = 0
 ·simp only [if_pos z1]
  rw [w64 (x := 0 + 1) (by omega) (by omega), show (0 : Int) + 1 = 1 from rfl]
  refine ev_step 1 (fun k => by rw [sharpen_Earlier.l0, if_pos (by omega), if_pos (by omega)]) ?_
  refine ev_bind (a := sp c d) (interval_Check_ev c d) ?_
  by_cases z2 : sp c d = 0
  ·simp only [if_pos z2]
   rw [w64 (x := 1 + 1) (by omega) (by omega), show (1 : Int) + 1 = 2 from rfl]
   refine ev_some 1 fun k => ?_
   rw [sharpen_Earlier.l0, if_neg (by omega)]
   by_cases c1 : b < c
   ·rw [if_pos c1, if_pos c1]
   ·rw [if_neg c1, if_neg c1]
    by_cases c2 : a > d
    ·rw [if_pos c2, if_pos c2]
    ·rw [if_neg c2, if_neg c2]
  ·simp only [if_neg z2]
   exact ev_some 0 fun k => rfl
 ·simp only [if_neg z1]
  exact ev_some 0 fun k => rfl
theorem sfind_any (q y : Int) : (∃ e, e ≠ 0 ∧ Ev (fun k => season_Find.f k q y) (0, 0, e)) ∨ (0 ≤ q ∧ q ≤ 3 ∧ ∃ x w lon z v u, Ev (fun k => season_Find.f k q y) (x, w, 0) ∧ lon % 1000000000 = q * 250000000 ∧ it x = 0 ∧ it w = 0 ∧ x ≤ w ∧ w - x ≤ 600000 ∧ STells 95000000 z lon x v ∧ v < 0 ∧ STells 95000000 z lon w u ∧ 0 < u) := by
 by_cases cq : q < 0 ∨ 3 < q
 ·exact .inl ⟨1, by decide, sfind_arg cq⟩
 by_cases cy : y < -10000 ∨ 10000 < y
 ·exact .inl ⟨3, by decide, sfind_range (by omega) (by omega) cy⟩
 obtain ⟨x, w, lon, z, v, u, ef, hl, x1, xw, w1, wd, tx, vn, tw, up⟩ := sfind_ev (q := q) (y := y) (by omega) (by omega) (by omega) (by omega)
 obtain ⟨n1, n2⟩ := ny_bound (y := y) (by omega) (by omega)
 exact .inr ⟨by omega, by omega, x, w, lon, z, v, u, ef, hl, if_pos ⟨by omega, by omega⟩, if_pos ⟨by omega, by omega⟩, xw, wd, tx, vn, tw, up⟩
theorem pfind_any (L q : Int) : (∃ e, e ≠ 0 ∧ Ev (fun k => phase_Find.f k L q) (0, 0, e)) ∨ (-100000 ≤ L ∧ L ≤ 100000 ∧ 0 ≤ q ∧ q ≤ 3 ∧ ∃ x y v w, Ev (fun k => phase_Find.f k L q) (x, y, 0) ∧ md L q - 172800000 < x ∧ x ≤ y ∧ y < md L q + 172800000 ∧ y - x ≤ 600000 ∧ Tells L q x v ∧ v < 0 ∧ Tells L q y w ∧ 0 < w) := by
 by_cases cq : q < 0 ∨ 3 < q
 ·exact .inl ⟨1, by decide, find_arg cq⟩
 by_cases cL : L < -100000 ∨ 100000 < L
 ·exact .inl ⟨3, by decide, find_range (by omega) (by omega) cL⟩
 obtain ⟨x, y, v, w, h⟩ := find_ev (L := L) (q := q) (by omega) (by omega) (by omega) (by omega)
 exact .inr ⟨by omega, by omega, by omega, by omega, x, y, v, w, h⟩
end Go.Proofs.Ytmahlfjnejbcnaa.SharpT
