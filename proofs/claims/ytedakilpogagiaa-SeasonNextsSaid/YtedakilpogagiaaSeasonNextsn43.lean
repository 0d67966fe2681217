/- SeasonNexts: Next is the first passage after an instant. -/
import Derived.Test.YtedakilpogagiaaSeasonNextsn20
import Derived.Test.YtedakilpogagiaaSeasonNextsn42
namespace Go.Proofs.Ytedakilpogagiaa.Pure
open Go Go.RowKit YtedakilpogagiaaW.PrintWords YtedakilpogagiaaW.PrintLast YtedakilpogagiaaW.PrintMore Opn PAll Base SinT Over RefT Units SumsT Vals SkyT SlpT PhaseT SunT SeasT
set_option linter.unusedVariables false
set_option linter.unusedSimpArgs false
theorem SeasonNexts : ephemerislaw2_SeasonNexts.Pure := by
 intro lon t a wl wt wa
 have i1 := i64_of wt
 refine ev_k (g := fun k => ephemerislaw2_SeasonNexts.f k lon t a) ?_
 unfold ephemerislaw2_SeasonNexts.f
 refine ev_bind season_works ?_
 refine Ev.congr (fun k => if_pos rfl) ?_
 by_cases cl : lon < 0 ∨ 1000000000 ≤ lon
 ·refine ev_bind (next_arg cl) ?_
  dsimp only
  have e : ∀ k, (if lon < 0 then ephemerislaw2_SeasonNexts.j0 k lon t a 1 true 0 0 else ephemerislaw2_SeasonNexts.j0 k lon t a 1 (decide (lon > 999999999)) 0 0) = ephemerislaw2_SeasonNexts.j0 k lon t a 1 true 0 0 := by
   intro k
   by_cases c : lon < 0
   ·rw [if_pos c]
   ·rw [if_neg c, decide_eq_true (show lon > 999999999 by omega)]
  refine Ev.congr (fun k => e k) ?_
  refine ev_some 1 fun k => ?_
  rw [ephemerislaw2_SeasonNexts.j0, if_pos rfl, none_at, Option.bind_some]
 have l0 : 0 ≤ lon := by omega
 have l1 : lon < 1000000000 := by omega
 have e : ∀ (k : Nat) (r : Int × Int × Int), (if lon < 0 then ephemerislaw2_SeasonNexts.j0 k lon t a r.2.2 true r.1 r.2.1 else ephemerislaw2_SeasonNexts.j0 k lon t a r.2.2 (decide (lon > 999999999)) r.1 r.2.1) = ephemerislaw2_SeasonNexts.j0 k lon t a r.2.2 false r.1 r.2.1 := by
  intro k r
  rw [if_neg (by omega), decide_eq_false (show ¬ lon > 999999999 by omega)]
 by_cases cv : it (wrap64 (t - 1728000000)) = 0 ∧ it (wrap64 (t + 34560000000)) = 0
 ·obtain ⟨v1, v2⟩ := it_zero cv.1
  obtain ⟨v3, v4⟩ := it_zero cv.2
  have w1 : wrap64 (t - 1728000000) = t - 1728000000 := by unfold I64 at i1; unfold wrap64 at v1 v2 ⊢; omega
  have w2 : wrap64 (t + 34560000000) = t + 34560000000 := by unfold I64 at i1; unfold wrap64 at v3 v4 ⊢; omega
  have c1 := cv.1
  have c2 := cv.2
  rw [w1] at v1 v2 c1
  rw [w2] at v3 v4 c2
  have ht : it t = 0 := if_pos ⟨by omega, by omega⟩
  obtain ⟨i, hi, j0, j1⟩ := at_ok (k := a) (n := 17) (by omega) (by omega)
  obtain ⟨al, ah, ds, D, z, el, a0, a1, a2, a3, hD, hs, z1, z2, no, yes⟩ := next_ev (lon := lon) (t := t) l0 l1 c1 c2
  have law : ∀ x y e : Int, Ev (fun k => season_Next.f k lon t) (x, y, e) → Ev (fun k => if D ≤ ah - al then ((ephemerislaw2_none.f x y e 11).bind fun t324 => (some t324)) else (if e = 0 then (if x ≥ t then (if y < t + 31708800000 then (if wrap64 (y - x) ≤ 600000 then ((ephemerisref2_SunLon.f k x (i - 8)).bind fun t325 => ((ephemerislaw2_ahead.f t325 (wrap64 (lon * 1048576))).bind fun t326 => (if t326 ≤ 0 then ((ephemerisref2_SunLon.f k y (i - 8)).bind fun t327 => ((ephemerislaw2_ahead.f t327 (wrap64 (lon * 1048576))).bind fun t328 => (if t328 ≥ 0 then (if x < t + 25920000000 then (some true) else ((ephemerisref2_SunLon.f k t (i - 8)).bind fun t329 => ((ephemerislaw2_ahead.f t329 (wrap64 (lon * 1048576))).bind fun t330 => (some (decide (t330 ≥ (-8388608000))))))) else (some false)))) else (some false)))) else (some false)) else (some false)) else (some false)) else (some false))) true →
    Ev (fun k => (season_Next.f k lon t).bind fun bt309 => if lon < 0 then ephemerislaw2_SeasonNexts.j0 k lon t a bt309.2.2 true bt309.1 bt309.2.1 else ephemerislaw2_SeasonNexts.j0 k lon t a bt309.2.2 (decide (lon > 999999999)) bt309.1 bt309.2.1) true := by
   intro x y r h1 h2
   refine ev_bind h1 ?_
   refine Ev.congr (fun k => e k (x, y, r)) ?_
   refine ev_step 2 (fun k => by rw [ephemerislaw2_SeasonNexts.j0, if_neg (by simp), instErr_at, Option.bind_some, if_pos ht, w1, instErr_at, Option.bind_some, if_pos c1, w2, instErr_at, Option.bind_some, ephemerislaw2_SeasonNexts.j1, if_neg (by simp [c2]), hi, Option.bind_some, w64 (x := i - 8) (by omega) (by omega)]) ?_
   refine ev_bind el ?_
   dsimp only
   refine Ev.congr (fun k => by rw [w64 (x := lon - al) (by omega) (by omega), mod_pos (by omega) (by omega), Option.bind_some, ← hD, w64 (x := ah - al) (by omega) (by omega), w64 (x := t + 31708800000) (by omega) (by omega), w64 (x := t + 25920000000) (by omega) (by omega)]) ?_
   exact h2
  by_cases c : D ≤ ah - al
  ·refine law 0 0 11 (no c) (ev_some 0 fun k => ?_)
   rw [if_pos c, none_at, Option.bind_some]
  ·obtain ⟨x, y, v, w, en, x0, x1, xy, y1, y2, wd, tx, vn, ty, wp⟩ := yes (by omega)
   refine law x y 0 en ?_
   have hDb : 0 ≤ D ∧ D < 1000000000 := by omega
   have hg : (al + D) % 1000000000 = lon := by omega
   obtain ⟨dx, hdx, b1, b2, f1, _, _, _⟩ := tx
   obtain ⟨dy, hdy, b3, b4, _, _, f2, _⟩ := ty
   have f1 := f1 vn
   have f2 := f2 wp
   have hx : it x = 0 := if_pos ⟨by omega, by omega⟩
   have hy : it y = 0 := if_pos ⟨by omega, by omega⟩
   have ax := ahead_s (z := z) (lon := al + D) (x := x) (dx := dx) (g := lon) (n := i - 8) ⟨b1, b2⟩ l0 l1 hg (by omega) (by omega)
   have ay := ahead_s (z := z) (lon := al + D) (x := y) (dx := dy) (g := lon) (n := i - 8) ⟨b3, b4⟩ l0 l1 hg (by omega) (by omega)
   refine Ev.congr (fun k => by rw [if_neg c, if_pos rfl, if_pos x0, if_pos y2, w64 (x := y - x) (by omega) (by omega), if_pos wd]) ?_
   refine ev_bind (sun_md hx hdx (n := i - 8) (by omega) (by omega)) ?_
   refine Ev.congr (fun k => by rw [ax, Option.bind_some, if_pos (by generalize Y z (al + D) x dx = p at *; omega)]) ?_
   refine ev_bind (sun_md hy hdy (n := i - 8) (by omega) (by omega)) ?_
   refine Ev.congr (fun k => by rw [ay, Option.bind_some, if_pos (by generalize Y z (al + D) y dy = p at *; omega)]) ?_
   by_cases c3 : x < t + 25920000000
   ·exact Ev.congr (fun k => if_pos c3) (ev_some 0 fun k => rfl)
   ·refine Ev.congr (fun k => if_neg c3) ?_
    refine ev_bind (sun_md ht hs (n := i - 8) (by omega) (by omega)) (ev_some 0 fun k => ?_)
    have hq : 290000 ≤ D * 1000 / 2737909 := by
     generalize D * 1000 / 2737909 = q at *
     omega
    have D2 : 793000000 ≤ D := by omega
    generalize Ws t ds = W at *
    rw [ahead_g (w := (W + 250 * (i - 8) * 1048576) % 1048576000000000) (g := lon) (v := W + z * 1048576000000000 - (al + D - 1000000000) * 1048576 + 250 * (i - 8) * 1048576) (by omega) (by omega) l0 l1 (by omega) (by omega) (-z - 1 + (al + D) / 1000000000 - (W + 250 * (i - 8) * 1048576) / 1048576000000000) (by omega), Option.bind_some]
    exact congrArg some (decide_eq_true (by omega))
 ·refine ev_bind (next_range l0 l1 cv) ?_
  refine Ev.congr (fun k => e k (0, 0, 3)) ?_
  refine ev_some 2 fun k => ?_
  rw [ephemerislaw2_SeasonNexts.j0, if_neg (by simp), instErr_at, Option.bind_some]
  have fin : ephemerislaw2_SeasonNexts.j1 (k + 1) lon t a 3 true 0 0 = some true := by
   rw [ephemerislaw2_SeasonNexts.j1, if_pos rfl, none_at, Option.bind_some]
  by_cases d1 : it t = 0
  ·rw [if_pos d1, instErr_at, Option.bind_some]
   by_cases d2 : it (wrap64 (t - 1728000000)) = 0
   ·rw [if_pos d2, instErr_at, Option.bind_some, bne1 (fun c => cv ⟨d2, c⟩)]
    exact fin
   ·rw [if_neg d2]
    exact fin
  ·rw [if_neg d1]
   exact fin
end Go.Proofs.Ytedakilpogagiaa.Pure
