/- SeasonFinds: the sun passes the longitude within the interval, in the right year. -/
import Derived.Test.YtedakilpogagiaaSeasonFindsn41
namespace Go.Proofs.Ytedakilpogagiaa.Pure
open Go Go.RowKit YtedakilpogagiaaW.PrintWords YtedakilpogagiaaW.PrintLast YtedakilpogagiaaW.PrintMore PAll Base SinT Over RefT Units SumsT Vals SkyT SlpT PhaseT SunT YearT SeasT
set_option linter.unusedVariables false
set_option linter.unusedSimpArgs false
theorem ybeyond_at {a : Int} : ephemerislaw2_beyond.f a 10000 = some (decide (a < -10000 ∨ 10000 < a)) := by
 unfold ephemerislaw2_beyond.f
 rw [w64 (x := -10000) (by omega) (by omega)]
 by_cases c : a < -10000
 ·rw [if_pos c, decide_eq_true (Or.inl c)]
 ·rw [if_neg c]
  by_cases c2 : a > 10000
  ·rw [decide_eq_true c2, decide_eq_true (Or.inr c2)]
  ·rw [decide_eq_false c2, decide_eq_false (by omega)]
theorem ny_bound {y : Int} (h1 : -10000 ≤ y) (h2 : y ≤ 10000) : -3660000 ≤ ny y ∧ ny y ≤ 3660000 := by
 unfold ny; omega
theorem sfind_arg {q y : Int} (h : q < 0 ∨ 3 < q) : Ev (fun k => season_Find.f k q y) (0, 0, 1) := by
 unfold season_Find.f
 refine ev_some 1 fun k => ?_
 by_cases c : q < 0
 ·rw [if_pos c, season_Find.j0, if_pos rfl]
 ·rw [if_neg c, decide_eq_true (by omega), season_Find.j0, if_pos rfl]
theorem sfind_range {q y : Int} (q1 : 0 ≤ q) (q2 : q ≤ 3) (h : y < -10000 ∨ 10000 < y) : Ev (fun k => season_Find.f k q y) (0, 0, 3) := by
 unfold season_Find.f
 refine ev_some 2 fun k => ?_
 rw [if_neg (by omega), decide_eq_false (show ¬ q > 3 by omega), season_Find.j0, if_neg (by simp)]
 by_cases c : y < -10000
 ·rw [if_pos c, season_Find.j1, if_pos rfl]
 ·rw [if_neg c, decide_eq_true (by omega), season_Find.j1, if_pos rfl]
theorem new_year {y al ah ds z : Int} (h1 : -10000 ≤ y) (h2 : y ≤ 10000) (h : it (ny y * 86400000) = 0) (hs : Dp sL (ny y * 86400000) ds) (a0 : 0 ≤ al) (a1 : al < 1000000000)
  (a2 : ah - al ≤ 4005) (z1 : al * 1048576 + 2000 * 1048576 ≤ Ws (ny y * 86400000) ds + z * 1048576000000000 + 160) (z2 : Ws (ny y * 86400000) ds + z * 1048576000000000 + 2000 * 1048576 ≤ ah * 1048576 + 160) : 755000000 ≤ al ∧ al ≤ 800000000 := by
 have b := sL_bd h hs
 have u := U_near 2737909333333 (ny y * 86400000)
 unfold Ws at z1 z2
 generalize U 2737909333333 (ny y * 86400000) = v at *
 unfold ny at u
 clear hs h
 have m : (-12000000 + (y - 1) * 1000000000) * 1048576 ≤ v ∧ v ≤ (16000000 + (y - 1) * 1000000000) * 1048576 := by
  clear z1 z2 b
  constructor <;> omega
 clear u
 have hz : z = -(y - 1) := by omega
 subst hz
 constructor <;> omega
theorem sfind_ev {q y : Int} (q1 : 0 ≤ q) (q2 : q ≤ 3) (h1 : -10000 ≤ y) (h2 : y ≤ 10000) : ∃ x w lon z v u, Ev (fun k => season_Find.f k q y) (x, w, 0) ∧ lon % 1000000000 = q * 250000000 ∧ ny y * 86400000 < x ∧ x ≤ w ∧ w < ny y * 86400000 + 31708800000 ∧ w - x ≤ 600000 ∧ STells z lon x v ∧ v < 0 ∧ STells z lon w u ∧ 0 < u := by
 obtain ⟨n1, n2⟩ := ny_bound h1 h2
 have it1 : it (ny y * 86400000 - 1728000000) = 0 := if_pos ⟨by omega, by omega⟩
 have it2 : it (ny y * 86400000 + 34560000000) = 0 := if_pos ⟨by omega, by omega⟩
 have it0 : it (ny y * 86400000) = 0 := if_pos ⟨by omega, by omega⟩
 obtain ⟨al, ah, ds, D, z, el, a0, a1, a2, a3, hD, hs, z1, z2, _, yes⟩ := next_ev (lon := q * 250000000) (t := ny y * 86400000) (by omega) (by omega) it1 it2
 obtain ⟨s1, s2⟩ := new_year h1 h2 it0 hs a0 a1 a2 z1 z2
 have hq : q = 0 ∨ q = 1 ∨ q = 2 ∨ q = 3 := by omega
 have hD2 : 195000000 ≤ D := by rcases hq with rfl | rfl | rfl | rfl <;> omega
 obtain ⟨x, w, v, u, en, x0, x1, xw, w1, w2, wd, tx, vn, tw, up⟩ := yes (by omega)
 have hq : 70000 ≤ D * 1000 / 2737909 := by omega
 refine ⟨x, w, al + D, z, v, u, ?_, by omega, by omega, xw, by omega, wd, tx, vn, tw, up⟩
 unfold season_Find.f
 refine ev_step 2 (fun k => by rw [if_neg (by omega), decide_eq_false (show ¬ q > 3 by omega), season_Find.j0, if_neg (by simp), if_neg (by omega), decide_eq_false (show ¬ y > 10000 by omega), season_Find.j1, if_neg (by simp), newYear_at k h1 h2, Option.bind_some, w64 (x := q * 250000000) (by omega) (by omega), w64 (x := ny y * 86400000) (by omega) (by omega)]) ?_
 exact ev_bind en (ev_some 0 fun k => rfl)
theorem SeasonFinds : ephemerislaw2_SeasonFinds.Pure := by
 intro q y a wq wy wa
 refine ev_k (g := fun k => ephemerislaw2_SeasonFinds.f k q y a) ?_
 unfold ephemerislaw2_SeasonFinds.f
 refine ev_bind season_works ?_
 refine Ev.congr (fun k => if_pos rfl) ?_
 by_cases cq : q < 0 ∨ 3 < q
 ·refine ev_bind (sfind_arg cq) ?_
  have e : ∀ k, (if q < 0 then ephemerislaw2_SeasonFinds.j0 k q y a 1 true 0 0 else ephemerislaw2_SeasonFinds.j0 k q y a 1 (decide (q > 3)) 0 0) = ephemerislaw2_SeasonFinds.j0 k q y a 1 true 0 0 := by
   intro k
   by_cases c : q < 0
   ·rw [if_pos c]
   ·rw [if_neg c, decide_eq_true (show q > 3 by omega)]
  refine Ev.congr (fun k => e k) ?_
  refine ev_some 1 fun k => ?_
  rw [ephemerislaw2_SeasonFinds.j0, if_pos rfl, none_at, Option.bind_some]
 have q1 : 0 ≤ q := by omega
 have q2 : q ≤ 3 := by omega
 have e : ∀ (k : Nat) (r : Int × Int × Int), (if q < 0 then ephemerislaw2_SeasonFinds.j0 k q y a r.2.2 true r.1 r.2.1 else ephemerislaw2_SeasonFinds.j0 k q y a r.2.2 (decide (q > 3)) r.1 r.2.1) = ephemerislaw2_SeasonFinds.j0 k q y a r.2.2 false r.1 r.2.1 := by
  intro k r
  rw [if_neg (by omega), decide_eq_false (show ¬ q > 3 by omega)]
 by_cases cy : y < -10000 ∨ 10000 < y
 ·refine ev_bind (sfind_range q1 q2 cy) ?_
  refine Ev.congr (fun k => e k (0, 0, 3)) ?_
  refine ev_some 1 fun k => ?_
  rw [ephemerislaw2_SeasonFinds.j0, if_neg (by simp), ybeyond_at, Option.bind_some, decide_eq_true cy, if_pos rfl, none_at, Option.bind_some]
 obtain ⟨x, w, lon, z, v, u, ef, hl, x1, xw, w1, wd, tx, vn, tw, up⟩ := sfind_ev (q := q) (y := y) q1 q2 (by omega) (by omega)
 obtain ⟨n1, n2⟩ := ny_bound (y := y) (by omega) (by omega)
 refine ev_bind ef ?_
 refine Ev.congr (fun k => e k (x, w, 0)) ?_
 obtain ⟨i, hi, j0, j1⟩ := at_ok (k := a) (n := 17) (by omega) (by omega)
 obtain ⟨dx, hdx, b1, b2, f1, _, _, _⟩ := tx
 obtain ⟨dw, hdw, b3, b4, _, _, f2, _⟩ := tw
 have f1 := f1 vn
 have f2 := f2 up
 have hx : it x = 0 := if_pos ⟨by omega, by omega⟩
 have hw : it w = 0 := if_pos ⟨by omega, by omega⟩
 have ax := ahead_s (z := z) (lon := lon) (x := x) (dx := dx) (g := q * 250000000) (n := i - 8) ⟨b1, b2⟩ (by omega) (by omega) hl (by omega) (by omega)
 have aw := ahead_s (z := z) (lon := lon) (x := w) (dx := dw) (g := q * 250000000) (n := i - 8) ⟨b3, b4⟩ (by omega) (by omega) hl (by omega) (by omega)
 refine ev_step 1 (fun k => by rw [ephemerislaw2_SeasonFinds.j0, if_neg (by simp), ybeyond_at, Option.bind_some, decide_eq_false cy, if_neg (by simp), hi, Option.bind_some]) ?_
 refine Ev.congr (fun k => rfl) ?_
 refine ev_bind (a := ny y) ?_ ?_
 ·obtain ⟨K, hK⟩ := refYear_ev (y := y) (by omega) (by omega)
  exact ⟨K, fun k hk => hK k (by omega)⟩
 refine Ev.congr (fun k => by rw [if_pos rfl, w64 (x := ny y * 86400000) (by omega) (by omega), if_pos x1, w64 (x := ny y * 86400000 + 31968000000) (by omega) (by omega), if_pos (show w < ny y * 86400000 + 31968000000 by omega), w64 (x := w - x) (by omega) (by omega), if_pos wd, w64 (x := i - 8) (by omega) (by omega), w64 (x := q * 250000000) (by omega) (by omega)]) ?_
 refine ev_bind (sun_md hx hdx (n := i - 8) (by omega) (by omega)) ?_
 refine Ev.congr (fun k => by rw [ax, Option.bind_some, if_pos (by generalize Y z lon x dx = p at *; omega)]) ?_
 refine ev_bind (sun_md hw hdw (n := i - 8) (by omega) (by omega)) (ev_some 0 fun k => ?_)
 rw [aw, Option.bind_some]
 exact congrArg some (decide_eq_true (by generalize Y z lon w dw = p at *; omega))
end Go.Proofs.Ytedakilpogagiaa.Pure
