/- SharpenSeasons: Season is a narrower interval with the properties of that of season.Find. -/
import Derived.Test.YtmahlfjnejbcnaaSharpenSeasonsn48
namespace Go.Proofs.Ytmahlfjnejbcnaa.Pure
open Go Go.RowKit YtmahlfjnejbcnaaW.PrintWords YtmahlfjnejbcnaaW.PrintLast YtmahlfjnejbcnaaW.PrintMore Opn PAll Base SinT Over RefT Units SumsT Vals SkyT SlpT PhaseT SunT YearT SeasT SharpT
set_option linter.unusedVariables false
set_option linter.unusedSimpArgs false
theorem SharpenSeasons : ephemerislaw2_SharpenSeasons.Pure := by
 intro q y wd a wq wy ww wa
 have iw := i64_of ww
 unfold I64 at iw
 refine ev_k (g := fun k => ephemerislaw2_SharpenSeasons.f k q y wd a) ?_
 have law : ∀ x w e fa fb fe : Int, Ev (fun k => sharpen_Season.f k q y wd) (x, w, e) → Ev (fun k => season_Find.f k q y) (fa, fb, fe) → Ev (fun k => ephemerislaw2_SharpenSeasons.j1 k q wd a e (if fe = 0 ∧ wd < 1 then 1 else fe) x w fa fb) true → Ev (fun k => ephemerislaw2_SharpenSeasons.f k q y wd a) true := by
  intro x w e fa fb fe h1 h2 h3
  unfold ephemerislaw2_SharpenSeasons.f
  refine ev_bind sharpen_works ?_
  refine Ev.congr (fun k => if_pos rfl) ?_
  refine ev_bind h1 (ev_bind h2 ?_)
  dsimp only
  by_cases c : fe = 0
  ·by_cases c2 : wd < 1
   ·rw [if_pos ⟨c, c2⟩] at h3
    exact ev_step 1 (fun k => by rw [if_pos c, decide_eq_true c2, ephemerislaw2_SharpenSeasons.j0, if_pos rfl]) h3
   ·rw [if_neg (fun h => c2 h.2)] at h3
    exact ev_step 1 (fun k => by rw [if_pos c, decide_eq_false c2, ephemerislaw2_SharpenSeasons.j0, if_neg (by simp)]) h3
  ·rw [if_neg (fun h => c h.1)] at h3
   exact ev_step 1 (fun k => by rw [if_neg c, ephemerislaw2_SharpenSeasons.j0, if_neg (by simp)]) h3
 rcases sfind_any q y with ⟨e, he, hf⟩ | ⟨q1, q2, x, w, lon, z, v, u, hf, hl, ix, iw2, xw, xw2, tx, vn, tw, up⟩
 ·refine law 0 0 e 0 0 e (sharp_season_err hf he) hf (ev_some 1 fun k => ?_)
  rw [if_neg (fun h => he h.1), ephemerislaw2_SharpenSeasons.j1, if_neg he, none_at, Option.bind_some]
 by_cases cw : wd < 1
 ·refine law 0 0 1 x w 0 (sharp_season_arg hf cw) hf (ev_some 1 fun k => ?_)
  rw [if_pos ⟨rfl, cw⟩, ephemerislaw2_SharpenSeasons.j1, if_neg (by decide), none_at, Option.bind_some]
 obtain ⟨x', w', e, es, hs, _⟩ := sharp_season hf hl q1 q2 ix iw2 xw tx vn tw up (wd := wd) (by omega)
 refine law x' w' e x w 0 es hf ?_
 rw [if_neg (fun h => cw h.2)]
 rcases hs with ⟨rfl, g1, g2, g3, g4, ⟨v', tv, v0⟩, ⟨u', tu, u0⟩⟩ | ⟨rfl, rfl, rfl, g⟩
 ·obtain ⟨a1, a2⟩ := it_zero ix
  obtain ⟨a3, a4⟩ := it_zero iw2
  obtain ⟨i, hi, j0, j1⟩ := at_ok (k := a) (n := 17) (by omega) (by omega)
  obtain ⟨dx, hdx, b1, b2, f1, _, _, _⟩ := tv
  obtain ⟨dw, hdw, b3, b4, _, _, f2, _⟩ := tu
  have f1 := f1 v0
  have f2 := f2 u0
  have hx : it x' = 0 := if_pos ⟨by omega, by omega⟩
  have hw : it w' = 0 := if_pos ⟨by omega, by omega⟩
  have ax := ahead_s (z := z) (lon := lon) (x := x') (dx := dx) (g := q * 250000000) (n := i - 8) ⟨by omega, by omega⟩ (by omega) (by omega) hl (by omega) (by omega)
  have aw := ahead_s (z := z) (lon := lon) (x := w') (dx := dw) (g := q * 250000000) (n := i - 8) ⟨by omega, by omega⟩ (by omega) (by omega) hl (by omega) (by omega)
  refine ev_step 1 (fun k => by rw [ephemerislaw2_SharpenSeasons.j1, if_pos rfl, if_pos rfl, hi, Option.bind_some, if_pos g1, if_pos g3, w64 (x := w' - x') (by omega) (by omega), if_pos g4, w64 (x := i - 8) (by omega) (by omega), w64 (x := q * 250000000) (by omega) (by omega)]) ?_
  refine ev_bind (sun_md hx hdx (n := i - 8) (by omega) (by omega)) ?_
  refine Ev.congr (fun k => by rw [ax, Option.bind_some, if_pos (by generalize Y z lon x' dx = p at *; omega)]) ?_
  refine ev_bind (sun_md hw hdw (n := i - 8) (by omega) (by omega)) (ev_some 0 fun k => ?_)
  rw [aw, Option.bind_some]
  exact congrArg some (decide_eq_true (by generalize Y z lon w' dw = p at *; omega))
 ·refine ev_some 1 fun k => ?_
  rw [ephemerislaw2_SharpenSeasons.j1, if_pos rfl, if_neg (by decide), none_at, Option.bind_some, if_pos rfl]
  exact congrArg some (decide_eq_true (by omega))
end Go.Proofs.Ytmahlfjnejbcnaa.Pure
