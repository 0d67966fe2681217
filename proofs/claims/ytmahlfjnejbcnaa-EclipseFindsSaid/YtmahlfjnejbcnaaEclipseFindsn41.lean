/- eclipse.Find: what it tells. -/
import Derived.Test.YtmahlfjnejbcnaaEclipseFindsn40
namespace Go.Proofs.Ytmahlfjnejbcnaa.EclT
open Go Go.RowKit YtmahlfjnejbcnaaW.PrintWords YtmahlfjnejbcnaaW.PrintLast YtmahlfjnejbcnaaW.PrintMore PAll Base SinT Over RefT Units SumsT Vals SkyT MoonT AmpT SlpT PhaseT
set_option linter.unusedVariables false
set_option linter.unusedSimpArgs false
def nL : List S71 := [(⟨14244783, 648500531, 36748195111111⟩ : S71), ⟨779450, 747884547, 73039842194444⟩, ⟨771369, 450883485, -456548027778⟩]
theorem nL_good : nL.length ≤ 40 ∧ ∀ x ∈ nL, ¬ bad x := ⟨by decide, by decide⟩
theorem nL_ex {t : Int} (h : it t = 0) : ∃ dn, -(15795602 * 1048576 + 12) ≤ dn ∧ dn ≤ 15795602 * 1048576 + 12 ∧ Dp nL t dn := by
 obtain ⟨dp, d1, d2, d3⟩ := dp_ex h nL nL_good.1 nL_good.2
 have e : ams nL = 15795602 := by decide
 have e2 : (nL.length : Int) = 3 := by decide
 rw [e, e2] at d1 d2
 exact ⟨dp, by omega, by omega, d3⟩
theorem north_md {t dn : Int} (h : it t = 0) (hn : Dp nL t dn) {m : Int} (m1 : -8 ≤ m) (m2 : m ≤ 8) : Ev (fun k => ephemerisref2_MoonLat.f k t m) (dn + 2500 * m * 1048576) := by
 have b : -(15795602 * 1048576 + 12) ≤ dn ∧ dn ≤ 15795602 * 1048576 + 12 := by
  obtain ⟨d, d1, d2, d3⟩ := nL_ex h
  rw [dp_uniq nL_good.1 hn d3]
  exact ⟨d1, d2⟩
 unfold ephemerisref2_MoonLat.f ephemerisref2_northSum.f
 refine Ev.congr (fun k => Option.bind_some _ _) ?_
 refine ev_bind (a := dn) ?_ (ev_some 0 fun k => ?_)
 ·have w0 : wrap64 ((0 : Int) * 1048576) = 0 := by decide +kernel
  have r := hn 0 (by decide) (by decide)
  rw [Int.zero_add] at r
  unfold ephemerisref2_Sum.f
  refine Ev.congr (fun k => ?_) r
  show ephemerisref2_Sum.l0 k t (wrap64 ((0 : Int) * 1048576)) _ _ 0 = _
  rw [w0]
  rfl
 ·rw [w64 (x := 2500 * m) (by omega) (by omega), w64 (x := 2500 * m * 1048576) (by omega) (by omega), w64 (by omega) (by omega)]
theorem slope_north : Ev (fun k => series_Slope.f k 0 0 nL 20000) (-3650461, 3650461, 0) := Ev.of (series_Slope.mono _ _ _ _) (k := 20) (by decide +kernel)
theorem X_upper {L q t t' dm ds dm' ds' : Int} (h : it t = 0) (h' : it t' = 0) (le : t ≤ t') (hm : Dp mL t dm) (hs : Dp sL t ds) (hm' : Dp mL t' dm') (hs' : Dp sL t' ds') : (X L q t' dm' ds' - X L q t dm ds) * 1000000 ≤ 470000 * (t' - t) * 1048576 + 100000 * 1000000 := by
 have et : t' = t + (t' - t) := by omega
 have a := (dp_pair h h' le mL_good.1 mL_good.2 hm hm').1
 have b := (dp_pair h h' le sL_good.1 sL_good.2 hs hs').2
 have u := (U_pair (t := t)).2
 have u' := (U_pair (t := t')).1
 have b0 : 0 ≤ t' - t := by omega
 generalize t' - t = d at *
 simp only [cs, mL, sL, lip, ab] at a b
 simp (decide := true) only [if_true, if_false] at a b
 unfold X Wm Ws
 generalize U 36601101305556 t = v at *
 generalize U 2737909333333 t = w at *
 generalize U 36601101305556 t' = v' at *
 generalize U 2737909333333 t' = w' at *
 omega
theorem north_pair {t t' a b : Int} (h : it t = 0) (h' : it t' = 0) (le : t ≤ t') (ha : Dp nL t a) (hb : Dp nL t' b) {d : Int} (hd : t' - t ≤ d) (d0 : 90000 ≤ d) : b - a ≤ -(-(3650461 * d) / 86400000) * 1048576 ∧ -(-(-(3650461 * d) / 86400000) * 1048576) ≤ b - a := by
 obtain ⟨k1, k2⟩ := dp_pair h h' le nL_good.1 nL_good.2 ha hb
 have b0 : 0 ≤ t' - t := by omega
 generalize t' - t = e at *
 simp only [cs, nL, lip, ab] at k1 k2
 simp (decide := true) only [if_true, if_false] at k1 k2
 constructor <;> omega
def eres (x y lo hi sl sh T P : Int) : Int × Int × Int × Int × Int × Int × Int × Int :=
 if sl > P then (0, x, y, lo, hi, 0, 0, 0) else if sh < T then (2, x, y, lo, hi, (P - sh) * 1000 / P, -(-((P - sl) * 1000) / P), 0)
 else if sl > T then (if sh < P then (1, x, y, lo, hi, (P - sh) * 1000 / P, -(-((P - sl) * 1000) / P), 0) else (0, 0, 0, 0, 0, 0, 0, 11)) else (0, 0, 0, 0, 0, 0, 0, 11)
def TP (q T P : Int) : Prop := q = 0 ∧ T = 2500000 ∧ P = 4100000 ∨ q = 2 ∧ T = 1300000 ∧ P = 2700000
theorem efind_ev {L q T P : Int} (l1 : -100000 ≤ L) (l2 : L ≤ 100000) (hq : TP q T P) : ∃ x y lo hi sl sh, Ev (fun k => phase_Find.f k L q) (x, y, 0) ∧ Ev (fun k => eclipse_Find.f k L q) (eres x y lo hi sl sh T P) ∧ it x = 0 ∧ it y = 0 ∧ x ≤ y ∧ y - x ≤ 600000 ∧
  hi - lo ≤ 90800 ∧ -50000000000 ≤ lo ∧ lo ≤ hi ∧ hi ≤ 50000000000 ∧ 0 ≤ sl ∧ sl ≤ sh ∧ sh ≤ 50000000000 ∧ sh - sl ≤ 90800 ∧
  ∀ t m, x ≤ t → t ≤ y → -8 ≤ m → m ≤ 8 → ∃ b, Ev (fun k => ephemerisref2_MoonLat.f k t m) b ∧ lo * 1048576 ≤ b + 160 ∧ b ≤ hi * 1048576 + 160 ∧ sl * 1048576 ≤ mx b (-b) + 160 ∧ mx b (-b) ≤ sh * 1048576 + 160 := by
 have q1 : 0 ≤ q ∧ q ≤ 3 := by rcases hq with ⟨rfl, _⟩ | ⟨rfl, _⟩ <;> omega
 obtain ⟨x, y, v, w, ef, x1, xy, y1, wd, tx, v0, ty, w0⟩ := find_ev (L := L) (q := q) l1 l2 q1.1 q1.2
 have mb : -256000000000000 ≤ md L q ∧ md L q ≤ 256000000000000 := by unfold md; omega
 have hx := md_valid (L := L) (q := q) (t := x) (by omega) (by omega) q1.1 q1.2 (by omega) (by omega)
 have hy := md_valid (L := L) (q := q) (t := y) (by omega) (by omega) q1.1 q1.2 (by omega) (by omega)
 obtain ⟨dm, ds, hm, hs, f1, _, _, _⟩ := tx
 obtain ⟨dm', ds', hm', hs', _, _, f2, _⟩ := ty
 have fx := f1 v0
 have fy := f2 w0
 have up := X_upper (L := L) (q := q) hx hy xy hm hs hm' hs'
 have d0 : 90000 ≤ y - x := by
  generalize X L q x dm ds = p at *
  generalize X L q y dm' ds' = r at *
  omega
 obtain ⟨vl, vh, n, e1, e2, r1, r2, r3, r4, r5, r6, r7, r8⟩ := moonLat_ev hx
 obtain ⟨dn, _, _, hn⟩ := nL_ex hx
 have en := ev_uniq (e2 0 (by omega) (by omega)) (north_md hx hn (m := 0) (by omega) (by omega))
 obtain ⟨mo, hmo⟩ : ∃ mo, mo = -(-(3650461 * (y - x)) / 86400000) := ⟨_, rfl⟩
 have mo1 : 0 ≤ mo ∧ mo ≤ 25352 := by omega
 obtain ⟨sl, sh, es, s0, s1, s2, s3, s4⟩ : ∃ sl sh, eclipse_size.f (vl - mo) (vh + mo) = some (sl, sh) ∧ 0 ≤ sl ∧ sl ≤ sh ∧ sh ≤ 50000000000 ∧ sh - sl ≤ 90800 ∧ ∀ b, (vl - mo) * 1048576 ≤ b + 160 → b ≤ (vh + mo) * 1048576 + 160 → sl * 1048576 ≤ mx b (-b) + 160 ∧ mx b (-b) ≤ sh * 1048576 + 160 := by
  unfold eclipse_size.f
  by_cases c1 : vl - mo ≥ 0
  ·rw [if_pos c1]
   refine ⟨_, _, rfl, by omega, by omega, by omega, by omega, fun b b1 b2 => ?_⟩
   unfold mx
   split <;> omega
  ·rw [if_neg c1]
   by_cases c2 : vh + mo ≤ 0
   ·rw [if_pos c2, w64 (x := -(vh + mo)) (by omega) (by omega), w64 (x := -(vl - mo)) (by omega) (by omega)]
    refine ⟨_, _, rfl, by omega, by omega, by omega, by omega, fun b b1 b2 => ?_⟩
    unfold mx
    split <;> omega
   ·rw [if_neg c2, w64 (x := -(vl - mo)) (by omega) (by omega)]
    refine ⟨_, _, rfl, by omega, ?_, ?_, ?_, fun b b1 b2 => ?_⟩
    ·unfold mx; split <;> omega
    ·unfold mx; split <;> omega
    ·unfold mx; split <;> omega
    ·unfold mx
     (repeat' split) <;> omega
 refine ⟨x, y, vl - mo, vh + mo, sl, sh, ef, ?_, hx, hy, xy, wd, by omega, by omega, by omega, by omega, s0, s1, s2, s3, fun t m t1 t2 m1 m2 => ?_⟩
 ·have el : eclipse_Limits.f q = some (T, P) := by
   unfold eclipse_Limits.f
   rcases hq with ⟨rfl, rfl, rfl⟩ | ⟨rfl, rfl, rfl⟩
   ·rfl
   ·rfl
  have eq0 : ∀ k, eclipse_Find.f k L q = eclipse_Find.j0 k L q false := by
   intro k
   unfold eclipse_Find.f
   rcases hq with ⟨rfl, _⟩ | ⟨rfl, _⟩
   ·rfl
   ·rfl
  have mxm : mx 3650461 3650461 = 3650461 := by decide
  have bT : 0 < T ∧ T < P ∧ P ≤ 4100000 := by rcases hq with ⟨_, rfl, rfl⟩ | ⟨_, rfl, rfl⟩ <;> omega
  refine Ev.congr (fun k => eq0 k) ?_
  refine ev_step 1 (fun k => by rw [eclipse_Find.j0, if_neg (by simp)]) ?_
  refine ev_bind ef ?_
  refine Ev.congr (fun k => if_pos rfl) ?_
  refine ev_bind e1 ?_
  unfold moon_North.f
  refine Ev.congr (fun k => Option.bind_some _ _) ?_
  refine ev_bind slope_north (ev_some 0 fun k => ?_)
  dsimp only
  rw [w64 (x := -(-3650461)) (by omega) (by omega), show (-(-3650461) : Int) = 3650461 by decide, mxm, w64 (x := y - x) (by omega) (by omega), w64 (x := 3650461 * (y - x)) (by omega) (by omega)]
  unfold interval_Ceil.f
  rw [w64 (x := -(3650461 * (y - x))) (by omega) (by omega), floor_pos (by omega) (by omega), Option.bind_some, w64 (x := -(-(3650461 * (y - x)) / 86400000)) (by omega) (by omega), Option.bind_some, ← hmo, el, Option.bind_some, w64 (x := vl - mo) (by omega) (by omega), w64 (x := vh + mo) (by omega) (by omega), es, Option.bind_some]
  dsimp only
  unfold eres
  by_cases c1 : sl > P
  ·rw [if_pos c1, if_pos c1]
  rw [if_neg c1, if_neg c1]
  have mh : interval_Floor.f (wrap64 (-(wrap64 ((wrap64 (P - sl)) * 1000)))) P = some (-((P - sl) * 1000) / P) := by
   rw [w64 (x := P - sl) (by omega) (by omega), w64 (x := (P - sl) * 1000) (by omega) (by omega), w64 (x := -((P - sl) * 1000)) (by omega) (by omega), floor_pos (by omega) (by omega)]
  have mhb : -4100000000 ≤ -((P - sl) * 1000) / P ∧ -((P - sl) * 1000) / P ≤ 0 := by rcases hq with ⟨_, rfl, rfl⟩ | ⟨_, rfl, rfl⟩ <;> omega
  have mlb : sh < P → wrap64 (Int.tdiv (wrap64 ((wrap64 (P - sh)) * 1000)) P) = (P - sh) * 1000 / P := by
   intro c
   rw [w64 (x := P - sh) (by omega) (by omega), w64 (x := (P - sh) * 1000) (by omega) (by omega), Int.tdiv_eq_ediv_of_nonneg (by omega)]
   exact w64 (by rcases hq with ⟨_, rfl, rfl⟩ | ⟨_, rfl, rfl⟩ <;> omega) (by rcases hq with ⟨_, rfl, rfl⟩ | ⟨_, rfl, rfl⟩ <;> omega)
  by_cases c2 : sh < T
  ·rw [if_pos c2, if_pos c2, if_neg (show ¬ P = 0 by omega), mh, Option.bind_some, Option.bind_some, mlb (by omega), w64 (x := -(-((P - sl) * 1000) / P)) (by omega) (by omega)]
  rw [if_neg c2, if_neg c2]
  by_cases c3 : sl > T
  ·rw [if_pos c3, if_pos c3]
   by_cases c4 : sh < P
   ·rw [if_pos c4, if_pos c4, if_neg (show ¬ P = 0 by omega), mh, Option.bind_some, Option.bind_some, mlb c4, w64 (x := -(-((P - sl) * 1000) / P)) (by omega) (by omega)]
   ·rw [if_neg c4, if_neg c4]
  ·rw [if_neg c3, if_neg c3]
 ·have ht : it t = 0 := by
   obtain ⟨a1, a2⟩ := it_zero hx
   obtain ⟨a3, a4⟩ := it_zero hy
   exact if_pos ⟨by omega, by omega⟩
  obtain ⟨dt, _, _, hdt⟩ := nL_ex ht
  obtain ⟨k1, k2⟩ := north_pair hx ht t1 hn hdt (d := y - x) (by omega) d0
  rw [← hmo] at k1 k2
  have g1 : (vl - mo) * 1048576 ≤ dt + 2500 * m * 1048576 + 160 := by omega
  have g2 : dt + 2500 * m * 1048576 ≤ (vh + mo) * 1048576 + 160 := by omega
  obtain ⟨g3, g4⟩ := s4 _ g1 g2
  exact ⟨_, north_md ht hdt m1 m2, g1, g2, g3, g4⟩
theorem efind_arg {L q : Int} (h0 : q ≠ 0) (h2 : q ≠ 2) : Ev (fun k => eclipse_Find.f k L q) (0, 0, 0, 0, 0, 0, 0, 1) := by
 unfold eclipse_Find.f
 refine ev_some 1 fun k => ?_
 have e : (q != 2) = true := by simp [h2]
 rw [if_neg h0, e, eclipse_Find.j0, if_pos rfl]
theorem efind_range {L q : Int} (hq : q = 0 ∨ q = 2) (h : L < -100000 ∨ 100000 < L) : Ev (fun k => eclipse_Find.f k L q) (0, 0, 0, 0, 0, 0, 0, 3) := by
 have eq0 : ∀ k, eclipse_Find.f k L q = eclipse_Find.j0 k L q false := by
  intro k
  unfold eclipse_Find.f
  rcases hq with rfl | rfl
  ·rfl
  ·rfl
 refine Ev.congr (fun k => eq0 k) ?_
 refine ev_step 1 (fun k => by rw [eclipse_Find.j0, if_neg (by simp)]) ?_
 refine ev_bind (find_range (by omega) (by omega) h) ?_
 exact ev_some 0 fun k => if_neg (show ¬ ((3 : Int) = 0) by decide)
end Go.Proofs.Ytmahlfjnejbcnaa.EclT
