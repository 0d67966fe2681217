/- TopSeasons: at the beginning of spring and autumn the sun is at the equator, at that of summer and winter at its tilt. -/
import Derived.Test.YtmahlfjnejbcnaaTopSeasonsn18
import Derived.Test.YtmahlfjnejbcnaaTopSeasonsn37
import Derived.Test.YtmahlfjnejbcnaaTopSeasonsn38
import Derived.Test.YtmahlfjnejbcnaaTopSeasonsn52
namespace Go.Proofs.Ytmahlfjnejbcnaa.Pure
open Go Go.RowKit YtmahlfjnejbcnaaW.PrintWords YtmahlfjnejbcnaaW.PrintLast YtmahlfjnejbcnaaW.PrintMore Opn PAll Base Turn OctT SinT Circ Over RefT Units Args SumsT Vals AmpT SlpT PhaseT SunT YearT NarrowT EqT EqN SkyV
set_option linter.unusedVariables false
set_option linter.unusedSimpArgs false
theorem sky_works : Ev (fun k => ephemeristop_sSky.f k) true := Ev.of ephemeristop_sSky.mono (k := 100) (by decide +kernel)
theorem ny_bound {y : Int} (h1 : -10000 ≤ y) (h2 : y ≤ 10000) : -3660000 ≤ ny y ∧ ny y ≤ 3660000 := by
  unfold ny; omega
theorem new_year {y al ah ds z : Int} (h1 : -10000 ≤ y) (h2 : y ≤ 10000) (h : it (ny y * 86400000) = 0) (hs : Dp sL (ny y * 86400000) ds) (a0 : 0 ≤ al) (a1 : al < 1000000000)
    (a2 : ah - al ≤ 4005) (z1 : al * 1048576 + 2000 * 1048576 ≤ Ws (ny y * 86400000) ds + z * 1048576000000000 + 160) (z2 : Ws (ny y * 86400000) ds + z * 1048576000000000 + 2000 * 1048576 ≤ ah * 1048576 + 160) : 755000000 ≤ al ∧ al ≤ 800000000 := by
  have b := sL_bd h hs
  have u := U_near 2737909333333 (ny y * 86400000)
  unfold Ws at z1 z2
  generalize U 2737909333333 (ny y * 86400000) = v at *
  unfold ny at u
  clear hs h
  have m : (-12000000 + (y - 1) * 1000000000) * 1048576 ≤ v ∧ v ≤ (16000000 + (y - 1) * 1000000000) * 1048576 := by
    clear z1 z2 b
    constructor <;> omega
  clear u
  have hz : z = -(y - 1) := by omega
  subst hz
  constructor <;> omega
theorem sfind_ev {q y : Int} (q1 : 0 ≤ q) (q2 : q ≤ 3) (h1 : -10000 ≤ y) (h2 : y ≤ 10000) : ∃ x w lon z v u, Ev (fun k => season_Find.f k q y) (x, w, 0) ∧ lon % 1000000000 = q * 250000000 ∧ ny y * 86400000 < x ∧ x ≤ w ∧ w < ny y * 86400000 + 31708800000 ∧ w - x ≤ 600000 ∧ STells 95000000 z lon x v ∧ v < 0 ∧ STells 95000000 z lon w u ∧ 0 < u := by
  obtain ⟨n1, n2⟩ := ny_bound h1 h2
  have it1 : it (ny y * 86400000 - 1728000000) = 0 := if_pos ⟨by omega, by omega⟩
  have it2 : it (ny y * 86400000 + 34560000000) = 0 := if_pos ⟨by omega, by omega⟩
  have it0 : it (ny y * 86400000) = 0 := if_pos ⟨by omega, by omega⟩
  obtain ⟨al, ah, ds, D, z, el, a0, a1, a2, a3, hD, hs, z1, z2, _, yes⟩ := next_ev (lon := q * 250000000) (t := ny y * 86400000) (by omega) (by omega) it1 it2
  obtain ⟨s1, s2⟩ := new_year h1 h2 it0 hs a0 a1 a2 z1 z2
  have hq : q = 0 ∨ q = 1 ∨ q = 2 ∨ q = 3 := by omega
  have hD2 : 195000000 ≤ D := by rcases hq with rfl | rfl | rfl | rfl <;> omega
  obtain ⟨x, w, v, u, en, x0, x1, xw, w1, w2, wd, tx, vn, tw, up⟩ := yes (by omega)
  have hq : 70000 ≤ D * 1000 / 2737909 := by omega
  refine ⟨x, w, al + D, z, v, u, ?_, by omega, by omega, xw, by omega, wd, tx, vn, tw, up⟩
  unfold season_Find.f
  refine Ev.congr (fun k => (PhaseT.oif_neg (by simp; omega)).trans ((PhaseT.oif_neg (by simp; omega)).trans ((PhaseT.oif_neg (by simp; omega)).trans (PhaseT.oif_neg (by simp; omega))))) ?_
  refine Ev.congr (fun k => by rw [newYear_at k h1 h2, Sx.ob_eq, Option.bind_some, PhaseT.iw, PhaseT.iw, w64 (x := q * 250000000) (by omega) (by omega), w64 (x := ny y * 86400000) (by omega) (by omega)]) ?_
  exact PhaseT.ob_ev en (ev_some 0 fun k => rfl)
def scok (a n : Int) : Bool := match ephemerisref2_SinCos.f 20 a with | some r => decide (n * 1152921504606846976 ≤ r.2 * 100000) | none => false
theorem ref_280 : scok 280000000000000 (-18745) = true := by decide +kernel
theorem c_280 : -(1875 / 10000) ≤ C 280000000000000 := by
  obtain ⟨s', c', e, _, ⟨h3, h4⟩, _⟩ := sincos_ev2 (a := 280000000000000) (by omega)
  have h := ref_280
  unfold scok at h
  cases hr : ephemerisref2_SinCos.f 20 280000000000000 with
  | none => rw [hr] at h; cases h
  | some r =>
    rw [hr] at h
    have q := ev_uniq e (Ev.of (ephemerisref2_SinCos.mono _) hr)
    subst q
    have k := cle (of_decide_eq_true h)
    push_cast at k
    generalize C 280000000000000 = p at *
    rw [u_eq] at *
    grind
theorem d_sq {c s k m : Rat} (h1 : c * c + s * s = 1) (h2 : k * k + m * m = 1) : (s * k + c * m - s) * (s * k + c * m - s) ≤ 2 - 2 * k := by
  have e : (s * k + c * m - s) * (s * k + c * m - s) + (c * (k - 1) - s * m) * (c * (k - 1) - s * m) = (c * c + s * s) * ((k * k + m * m) + 1 - 2 * k) := by grind
  have p := Turn.sq_nonneg (c * (k - 1) - s * m)
  rw [h1, h2] at e
  generalize (c * (k - 1) - s * m) * (c * (k - 1) - s * m) = z at *
  generalize (s * k + c * m - s) * (s * k + c * m - s) = y at *
  clear h1 h2
  grind
theorem from_sq {D B : Rat} (h : D * D ≤ B) (hb : B ≤ 23755 / 10000) : -(15415 / 10000) ≤ D ∧ D ≤ 15415 / 10000 := by
  constructor
  · rcases (Rat.le_total : -(15415 / 10000) ≤ D ∨ D ≤ -(15415 / 10000)) with c | c
    · exact c
    · have a : (15415 / 10000 : Rat) ≤ -D := by grind
      have m1 := Rat.mul_le_mul_of_nonneg_left a (show (0 : Rat) ≤ 15415 / 10000 by decide +kernel)
      have m2 := Rat.mul_le_mul_of_nonneg_left a (show 0 ≤ -D by grind)
      have e : -D * -D = D * D := by grind
      rw [e] at m2
      generalize D * D = y at *
      exfalso
      grind
  · rcases (Rat.le_total : D ≤ 15415 / 10000 ∨ 15415 / 10000 ≤ D) with c | c
    · exact c
    · have m1 := Rat.mul_le_mul_of_nonneg_left c (show (0 : Rat) ≤ 15415 / 10000 by decide +kernel)
      have m2 := Rat.mul_le_mul_of_nonneg_left c (show 0 ≤ D by grind)
      generalize D * D = y at *
      exfalso
      grind
theorem quarter_diff {x e : Int} (h0 : 221000000000000 ≤ e) (h1 : e ≤ 280000000000000) : Nr (S (x + e) - S x) (1542 / 1000) := by
  have k := C_dec (a := e) (b := 280000000000000) (by omega) h1 (by omega)
  have c := c_280
  obtain ⟨a, b⟩ := (SC_add x e).1
  have q := from_sq (d_sq (SC_sq x) (SC_sq e)) (by generalize C e = p at *; generalize C 280000000000000 = r at *; clear a b; grind)
  obtain ⟨q1, q2⟩ := q
  unfold Nr
  generalize S (x + e) = y at *
  generalize S x * C e + C x * S e = z at *
  generalize S x = w at *
  clear k c
  constructor <;> grind
theorem pair_K {x : S71} (hx : ¬ bad x) {t t' m : Int} {K : Rat} (t1 : -345600000000000 ≤ t) (t2 : t < 345600086400000) (t3 : -345600000000000 ≤ t') (t4 : t' < 345600086400000) (K0 : 0 ≤ K)
    (hK : Nr (S (arg x.f2 t' + x.f1 * 1000000) - S (arg x.f2 t + x.f1 * 1000000)) K) (m0 : 0 ≤ m)
    (hm : 1000 * 1152921504606846976 * (ab x.f0 : Rat) * K ≤ 1099511627776 * 1048576 * (m : Rat) + 1099511627776 * 14000) : Two x t t' ((m * 1048576 + 2930000) / 1000) := by
  unfold bad at hx
  obtain ⟨g0, g1⟩ := arg_bound x.f2 t
  obtain ⟨g2, g3⟩ := arg_bound x.f2 t'
  have e1 := arg_ev (r := x.f2) (t := t) (by omega) (by omega) t1 t2
  have e2 := arg_ev (r := x.f2) (t := t') (by omega) (by omega) t3 t4
  obtain ⟨s, c, e3, ⟨s1, s2⟩, _, ⟨s5, s6⟩, _⟩ := sincos_ev2 (a := arg x.f2 t + x.f1 * 1000000) (by omega)
  obtain ⟨s', c', e4, ⟨s1', s2'⟩, _, ⟨s5', s6'⟩, _⟩ := sincos_ev2 (a := arg x.f2 t' + x.f1 * 1000000) (by omega)
  obtain ⟨p, e5, p1, p2, p3, p4⟩ := part_any (a := x.f0) (s := s) (by omega) (by omega) s5 s6
  obtain ⟨p', e6, p1', p2', p3', p4'⟩ := part_any (a := x.f0) (s := s') (by omega) (by omega) s5' s6'
  obtain ⟨r1, r2⟩ := slope_rat (a := x.f0) (by omega) (by omega) s1 s2 s1' s2' K0 hK.1 hK.2 p1 p2 p1' p2' m0 hm
  clear hm s1 s2 s1' s2'
  exact ⟨s, c, p, s', c', p', e1, e3, e5, e2, e4, e6, by omega, by omega, p3, p4, p3', p4'⟩
theorem two_nr2 (a b : Int) : Nr (S a - S b) 2 := by
  obtain ⟨_, _, h1, h2⟩ := SC_bound a
  obtain ⟨_, _, h3, h4⟩ := SC_bound b
  unfold Nr
  constructor <;> grind
theorem sun_quarter {t t' : Int} (h : it t = 0) (h' : it t' = 0) (d1 : 6998400000 ≤ t' - t) (d2 : t' - t ≤ 8812800000) {a b : Int} (ha : Dp sL t a) (hb : Dp sL t' b) : -8400000 * 1048576 ≤ b - a ∧ b - a ≤ 8400000 * 1048576 := by
  obtain ⟨t1, t2⟩ := it_zero h
  obtain ⟨t3, t4⟩ := it_zero h'
  have k := dp_two (t := t) (t' := t') (c := fun x => if x.f2 = 2737778555556 then (8200900000 * 1048576 + 2930000) / 1000 else (111100000 * 1048576 + 2930000) / 1000) sL_good.1 sL_good.2 (fun x hx => ?_) ha hb
  · have c2 : cs (fun x : S71 => if x.f2 = 2737778555556 then (8200900000 * 1048576 + 2930000) / 1000 else (111100000 * 1048576 + 2930000) / 1000) sL ≤ 8400000 * 1048576 := by decide
    constructor <;> omega
  · have hx2 : x = ⟨5318339, 84888545, 2737778555556⟩ ∨ x = ⟨55536, 169777090, 5475557111112⟩ := by
      simpa [sL] using hx
    rcases hx2 with rfl | rfl
    · refine pair_K (x := (⟨5318339, 84888545, 2737778555556⟩ : S71)) (by decide) (K := 1542 / 1000) (m := 8200900000) t1 t2 t3 t4 (by decide +kernel) ?_ (by decide) (by decide +kernel)
      have e : arg 2737778555556 t' = (2737778555556 * t + 2737778555556 * (t' - t)) / 86400000 % 1000000000000000 := by
        unfold arg
        rw [← Int.mul_add, show t + (t' - t) = t' by omega]
      have p1 : S (arg 2737778555556 t + 84888545 * 1000000) = S (2737778555556 * t / 86400000 + 84888545 * 1000000) := S_per (by unfold arg; omega)
      have p2 : S (arg 2737778555556 t' + 84888545 * 1000000) = S (2737778555556 * t / 86400000 + 84888545 * 1000000 + ((2737778555556 * t + 2737778555556 * (t' - t)) / 86400000 - 2737778555556 * t / 86400000)) := S_per (by rw [e]; omega)
      show Nr (S (arg 2737778555556 t' + 84888545 * 1000000) - S (arg 2737778555556 t + 84888545 * 1000000)) _
      rw [p1, p2]
      exact quarter_diff (by omega) (by omega)
    · exact pair_K (x := (⟨55536, 169777090, 5475557111112⟩ : S71)) (by decide) (K := 2) (m := 111100000) t1 t2 t3 t4 (by decide +kernel) (two_nr2 _ _) (by decide) (by decide +kernel)
theorem Y_upper {z lon t t' ds ds' : Int} (h : it t = 0) (h' : it t' = 0) (le : t ≤ t') (hs : Dp sL t ds) (hs' : Dp sL t' ds') : (Y z lon t' ds' - Y z lon t ds) * 1000000 ≤ 34000 * (t' - t) * 1048576 + 100000 * 1000000 := by
  have et : t' = t + (t' - t) := by omega
  have b := (dp_pair h h' le sL_good.1 sL_good.2 hs hs').1
  have u := U_near 2737909333333 t
  have u' := U_near 2737909333333 t'
  have b0 : 0 ≤ t' - t := by omega
  generalize t' - t = d at *
  simp only [cs, sL, lip, ab] at b
  simp (decide := true) only [if_true, if_false] at b
  unfold Y Ws
  generalize U 2737909333333 t = v at *
  generalize U 2737909333333 t' = v' at *
  omega
theorem Y_quarter {z lon t t' ds ds' : Int} (h : it t = 0) (h' : it t' = 0) (d1 : 6998400000 ≤ t' - t) (d2 : t' - t ≤ 8812800000) (hs : Dp sL t ds) (hs' : Dp sL t' ds') :
    (Y z lon t' ds' - Y z lon t ds) * 86400000000000 ≤ (2737909333333 * (t' - t) + 8400010 * 86400000000000) * 1048576 ∧ (2737909333333 * (t' - t) - 8400010 * 86400000000000) * 1048576 ≤ (Y z lon t' ds' - Y z lon t ds) * 86400000000000 := by
  obtain ⟨b, b'⟩ := sun_quarter h h' d1 d2 hs hs'
  have u := U_near 2737909333333 t
  have u' := U_near 2737909333333 t'
  unfold Y Ws
  generalize U 2737909333333 t = v at *
  generalize U 2737909333333 t' = v' at *
  constructor <;> omega
theorem s_mono {a b : Int} (h0 : -250000000000000 ≤ a) (h : a ≤ b) (h1 : b ≤ 250000000000000) : S a ≤ S b + 1 / 1000000000000000000 := by
  have e := (S_as a).1
  have f := (S_as b).1
  have n1 := (SC_neg (a - 250000000000000)).2
  have n2 := (SC_neg (b - 250000000000000)).2
  rw [show -(a - 250000000000000) = 250000000000000 - a by omega] at n1
  rw [show -(b - 250000000000000) = 250000000000000 - b by omega] at n2
  have d := C_dec (a := 250000000000000 - b) (b := 250000000000000 - a) (by omega) (by omega) (by omega)
  unfold Nr at *
  generalize S a = x1 at *
  generalize S b = x2 at *
  generalize C (a - 250000000000000) = x3 at *
  generalize C (b - 250000000000000) = x4 at *
  generalize C (250000000000000 - a) = x5 at *
  generalize C (250000000000000 - b) = x6 at *
  clear h0 h h1
  grind
theorem above {w d : Int} (w1 : w ≤ 250000000000000) (d0 : -250000000000000 ≤ d) (h : S w + 1 / 100000000 < S d) : w ≤ d := by
  rcases Int.lt_or_le d w with c | c
  · have m := s_mono d0 (show d ≤ w by omega) w1
    generalize S d = x at *
    generalize S w = y at *
    exfalso
    grind
  · exact c
theorem s_15000 : 94 / 1000000 ≤ S (15000 * 1000000) :=
  Rat.le_trans (by decide +kernel) (S_big (15000 * 1000000) (15000000000 * 1099511627776) (by omega) (by omega) (by decide +kernel) (q := 94240 / 1000000000) (by decide +kernel) (by decide +kernel))
theorem s_15000' : S (15000 * 1000000) ≤ 95 / 1000000 := by
  have h := (S_lip (a := 0) (b := 15000 * 1000000) (by omega)).2
  rw [S_zero] at h
  refine Rat.le_trans (b := S (15000 * 1000000) - 0) (by generalize S (15000 * 1000000) = x; grind) (Rat.le_trans h (by decide +kernel))
theorem c_15000 : 1 - C (15000 * 1000000) ≤ 1 / 10000000 := Rat.le_trans (verse (K := 15000) (by omega) (by omega) (q := 95 / 1000000) (by decide +kernel) (by decide +kernel)) (by decide +kernel)
theorem s_n15000 : S (-15000000000) ≤ -(93 / 1000000) := by
  have h := s_15000
  have n := (SC_neg 15000000000).1
  rw [show (15000 * 1000000 : Int) = 15000000000 by decide] at h
  unfold Nr at n
  generalize S 15000000000 = x at *
  generalize S (-15000000000) = y at *
  grind
theorem tilt_up : Se + 8 / 100000 ≤ S 65124000000000 ∧ S 65094000000000 ≤ Se - 8 / 100000 := by
  obtain ⟨⟨g1, g2⟩, ⟨g3, g4⟩⟩ := tilt_bounds
  have h := s_15000
  have h' := s_15000'
  have c := c_15000
  obtain ⟨_, c1, _, _⟩ := SC_bound (15000 * 1000000)
  obtain ⟨a, _⟩ := (SC_add 65109000000000 (15000 * 1000000)).1
  obtain ⟨b, _⟩ := (SC_add 65094000000000 (15000 * 1000000)).1
  obtain ⟨a2, b2⟩ := (SC_add 65109000000000 (-(15000 * 1000000))).1
  obtain ⟨n1, n2⟩ := SC_neg (15000 * 1000000)
  rw [show (65109000000000 + 15000 * 1000000 : Int) = 65124000000000 by decide] at a
  rw [show (65109000000000 + -(15000 * 1000000) : Int) = 65094000000000 by decide] at a2 b2
  have es : S 65109000000000 = Se := rfl
  have ec : C 65109000000000 = Ce := rfl
  rw [es, ec] at a a2 b2
  unfold Nr at n1 n2
  generalize S 65124000000000 = x at *
  generalize S 65094000000000 = y at *
  generalize S (15000 * 1000000) = s at *
  generalize C (15000 * 1000000) = k at *
  generalize S (-(15000 * 1000000)) = s' at *
  generalize C (-(15000 * 1000000)) = k' at *
  generalize Se = f at *
  generalize Ce = e at *
  clear b es ec
  have m1 := Rat.mul_le_mul_of_nonneg_left h (show 0 ≤ e by grind)
  have m2 := Rat.mul_le_mul_of_nonneg_left (show 1 - 1 / 10000000 ≤ k by grind) (show 0 ≤ f by grind)
  have m3 := Rat.mul_le_mul_of_nonneg_left (show s' ≤ -(93 / 1000000) by grind) (show 0 ≤ e by grind)
  have m4 := Rat.mul_le_mul_of_nonneg_left (show k' ≤ 1 + 1 / 1000000000 by grind) (show 0 ≤ f by grind)
  generalize e * s = q1 at *
  generalize f * k = q2 at *
  generalize e * s' = q3 at *
  generalize f * k' = q4 at *
  constructor <;> grind
theorem z_near {q a e : Int} (q0 : 0 ≤ q) (q3 : q ≤ 3) (ha : ∃ z : Int, a = q * 250000000 + e + z * 1000000000) (e0 : -21000 ≤ e) (e1 : e ≤ 21000) :
    (q = 0 ∨ q = 2 → Nr (S (a * 1000000)) (133 / 1000000)) ∧ (q = 1 → 1 - 133 / 1000000 ≤ S (a * 1000000)) ∧ (q = 3 → S (a * 1000000) ≤ -(1 - 133 / 1000000)) := by
  obtain ⟨z, rfl⟩ := ha
  have kk : kap * ((21000000000 : Int) : Rat) + 1 / 100000000000000000 ≤ 133 / 1000000 := by decide +kernel
  have lip : ∀ x : Int, -21000000000 ≤ x → x ≤ 21000000000 → Nr (S x) (133 / 1000000) := by
    intro x h0 h1
    have := S_apart (x := 0) (y := x) (d := 21000000000) (by omega)
    rw [S_zero] at this
    obtain ⟨b1, b2⟩ := this
    generalize kap * ((21000000000 : Int) : Rat) = w at *
    generalize S x = y at *
    unfold Nr
    constructor <;> grind
  refine ⟨fun h => ?_, fun h => ?_, fun h => ?_⟩
  · rcases h with rfl | rfl
    · rw [S_per (a := (0 * 250000000 + e + z * 1000000000) * 1000000) (b := e * 1000000) (by omega)]
      exact lip _ (by omega) (by omega)
    · rw [S_per (a := (2 * 250000000 + e + z * 1000000000) * 1000000) (b := e * 1000000 + 250000000000000 + 250000000000000) (by omega)]
      obtain ⟨l1, l2⟩ := lip (e * 1000000) (by omega) (by omega)
      obtain ⟨a1, a2⟩ := (quarter_at (e * 1000000 + 250000000000000)).1
      obtain ⟨b1, b2⟩ := (quarter_at (e * 1000000)).2
      have l := S_apart (x := 0) (y := e * 1000000) (d := 21000000000) (by omega)
      rw [S_zero] at l
      obtain ⟨l3, l4⟩ := l
      generalize kap * ((21000000000 : Int) : Rat) = w at *
      generalize S (e * 1000000 + 250000000000000 + 250000000000000) = x1 at *
      generalize C (e * 1000000 + 250000000000000) = x2 at *
      generalize S (e * 1000000) = x3 at *
      unfold Nr
      clear l1 l2
      constructor <;> grind
  · subst h
    have n := near_top (t := (1 * 250000000 + e + z * 1000000000) * 1000000) (k := z) 21000000000 (by omega) (by omega) (by omega)
    generalize kap * ((21000000000 : Int) : Rat) = w at *
    generalize S ((1 * 250000000 + e + z * 1000000000) * 1000000) = y at *
    grind
  · subst h
    have n := near_bottom (t := (3 * 250000000 + e + z * 1000000000) * 1000000) (k := z) 21000000000 (by omega) (by omega) (by omega)
    generalize kap * ((21000000000 : Int) : Rat) = w at *
    generalize S ((3 * 250000000 + e + z * 1000000000) * 1000000) = y at *
    grind
theorem sun_z (t : Int) : -(398 / 1000) ≤ eZ t 0 ∧ eZ t 0 ≤ 398 / 1000 := by
  obtain ⟨⟨g1, g2⟩, ⟨g3, g4⟩⟩ := tilt_bounds
  obtain ⟨b1, b2, b3, b4⟩ := SC_bound t
  unfold eZ
  rw [S_zero, C_zero]
  generalize S t = z at *
  generalize Ce = e at *
  generalize Se = f at *
  have k := OctT.abs_mul (a := z) (b := f) (A := 1) (B := 398 / 1000) b3 b4 (by grind) g4
  constructor <;> grind
theorem sun_dec {t al ah : Int} (e1 : Ev (fun k => sun_Longitude.f k t) (al, ah, 0)) (a0 : 0 ≤ al) (a1 : al < 1000000000) (r1 : ah - al ≤ 4005) (r2 : al + 4000 ≤ ah) : ∃ A0 A1 B0 B1 δ : Int, Ev (fun k => sun_At.f k t) (A0, A1, B0, B1, 0) ∧ -250000000 ≤ B0 ∧ B1 ≤ 250000000 ∧ B0 * 1000000 ≤ δ ∧ δ ≤ B1 * 1000000 ∧ Nr (S (al * 1000000) * Se - S δ) (6 / 100000000000000) := by
  have sz := sun_z (al * 1000000)
  obtain ⟨A0, A1, B0, B1, y0, y1, e, n1, hs, n2, n3, ⟨n4, n5⟩, n6, n7, n8, real⟩ := eq_real (lo := al) (hi := ah) (la := 0) (lb := 0) (sp_zero' (by omega) (by omega) (by omega)) (sp_zero' (by omega) (by omega) (by omega)) (by omega) (by omega) (by omega) (D := 56100) (wy := 28057) (wx := 28043) (K := 7400) (by omega) (by omega) (by omega) (by omega) (zm := 398 / 1000) (ρ := 916000000) (W := 39700) (κ := 4649 / 100000000) (by decide +kernel) (by rw [show (0 : Int) * 1000000 = 0 by omega]; exact sz) (by decide +kernel) (by decide +kernel) (by decide +kernel) (by decide +kernel) (by decide +kernel) (by decide +kernel) S_7400 (by omega) (by omega) (by decide +kernel) (by decide +kernel)
  obtain ⟨α, δ, b1, b2, b3, b4, i1, i2, i3⟩ := real (al * 1000000) 0 (by omega) (by omega) (by omega) (by omega)
  refine ⟨A0, A1, B0, B1, δ, ?_, hs.a0, hs.b0, b3, b4, ?_⟩
  · unfold sun_At.f
    refine PhaseT.ob_ev e1 ?_
    refine Ev.congr (fun k => PhaseT.oif_neg (PhaseT.bne0 rfl)) ?_
    exact PhaseT.ob_ev e (ev_some 0 fun k => rfl)
  · unfold eZ at i3
    rw [S_zero, C_zero] at i3
    generalize S (al * 1000000) = p at *
    have e : 1 * p * Se + 0 * Ce = p * Se := by grind
    rw [e] at i3
    exact i3
theorem eq_rat {p f s : Rat} (h : Nr (p * f - s) (6 / 100000000000000)) (k : Nr p (133 / 1000000)) (f0 : 397 / 1000 ≤ f) (f1 : f ≤ 398 / 1000) : Nr s (54 / 1000000) := by
  have m := OctT.abs_mul k.1 k.2 (show -(398 / 1000) ≤ f by grind) f1
  unfold Nr at *
  generalize p * f = q at *
  constructor <;> grind
theorem top_rat {p f s : Rat} (h : Nr (p * f - s) (6 / 100000000000000)) (k : 1 - 133 / 1000000 ≤ p) (p1 : p ≤ 1) (f0 : 397 / 1000 ≤ f) (f1 : f ≤ 398 / 1000) : f - 54 / 1000000 ≤ s ∧ s ≤ f + 1 / 1000000 := by
  have m1 := Rat.mul_le_mul_of_nonneg_left k (show 0 ≤ f by grind)
  have m2 := Rat.mul_le_mul_of_nonneg_left p1 (show 0 ≤ f by grind)
  have e : f * p = p * f := by grind
  rw [e] at m1 m2
  unfold Nr at *
  generalize p * f = q at *
  constructor <;> grind
def want (q : Int) : Int := if q = 0 then 0 else if q = 1 then 65109000 else if q = 2 then 0 else -65109000
theorem dec_at {q a e δ : Int} (q0 : 0 ≤ q) (q3 : q ≤ 3) (ha : ∃ z : Int, a = q * 250000000 + e + z * 1000000000) (e0 : -21000 ≤ e) (e1 : e ≤ 21000) (d0 : -250000000000000 ≤ δ) (d1 : δ ≤ 250000000000000) (h : Nr (S (a * 1000000) * Se - S δ) (6 / 100000000000000)) : (want q - 15000) * 1000000 ≤ δ ∧ δ ≤ (want q + 15000) * 1000000 := by
  obtain ⟨_, f0, f1⟩ := tilt_bounds
  obtain ⟨_, _, b3, b4⟩ := SC_bound (a * 1000000)
  obtain ⟨z1, z2, z3⟩ := z_near q0 q3 ha e0 e1
  have u1 := s_15000
  have u2 := s_n15000
  obtain ⟨t1, t2⟩ := tilt_up
  rw [show (15000 * 1000000 : Int) = 15000000000 by decide] at u1
  rcases (show q = 0 ∨ q = 1 ∨ q = 2 ∨ q = 3 by omega) with rfl | rfl | rfl | rfl
  · have r := eq_rat h (z1 (.inl rfl)) f0 f1
    have w1 := above (w := -15000000000) (d := δ) (by omega) d0 (by unfold Nr at r; generalize S δ = y at *; generalize S (-15000000000) = v at *; clear h z1 z2 z3 t1 t2 u1; grind)
    have w2 := above (w := δ) (d := 15000000000) d1 (by omega) (by unfold Nr at r; generalize S δ = y at *; generalize S 15000000000 = v at *; clear h z1 z2 z3 t1 t2 u2; grind)
    unfold want
    simp
    omega
  · have r := top_rat h (z2 rfl) b4 f0 f1
    have w1 := above (w := 65094000000000) (d := δ) (by omega) d0 (by generalize S δ = y at *; generalize S 65094000000000 = v at *; generalize Se = f at *; clear h z1 z2 z3 t1 u1 u2; grind)
    have w2 := above (w := δ) (d := 65124000000000) d1 (by omega) (by generalize S δ = y at *; generalize S 65124000000000 = v at *; generalize Se = f at *; clear h z1 z2 z3 t2 u1 u2; grind)
    unfold want
    simp
    omega
  · have r := eq_rat h (z1 (.inr rfl)) f0 f1
    have w1 := above (w := -15000000000) (d := δ) (by omega) d0 (by unfold Nr at r; generalize S δ = y at *; generalize S (-15000000000) = v at *; clear h z1 z2 z3 t1 t2 u1; grind)
    have w2 := above (w := δ) (d := 15000000000) d1 (by omega) (by unfold Nr at r; generalize S δ = y at *; generalize S 15000000000 = v at *; clear h z1 z2 z3 t1 t2 u2; grind)
    unfold want
    simp
    omega
  · have h' : Nr (-S (a * 1000000) * Se - -S δ) (6 / 100000000000000) := by
      unfold Nr at *
      have e : -S (a * 1000000) * Se - -S δ = -(S (a * 1000000) * Se - S δ) := by grind
      rw [e]
      generalize S (a * 1000000) * Se - S δ = q at *
      constructor <;> grind
    have z3' := z3 rfl
    have r := top_rat h' (by generalize S (a * 1000000) = y at *; clear h h' z1 z2 z3 t1 t2 u1 u2; grind) (by generalize S (a * 1000000) = y at *; clear h h' z1 z2 z3 t1 t2 u1 u2; grind) f0 f1
    have n1 := (SC_neg 65094000000000).1
    have n2 := (SC_neg 65124000000000).1
    have w1 := above (w := -65124000000000) (d := δ) (by omega) d0 (by unfold Nr at n2; generalize S δ = y at *; generalize S 65124000000000 = v at *; generalize S (-65124000000000) = v' at *; generalize Se = f at *; clear h h' z1 z2 z3 z3' t2 u1 u2 n1; grind)
    have w2 := above (w := δ) (d := -65094000000000) d1 (by omega) (by unfold Nr at n1; generalize S δ = y at *; generalize S 65094000000000 = v at *; generalize S (-65094000000000) = v' at *; generalize Se = f at *; clear h h' z1 z2 z3 z3' t1 u1 u2 n2; grind)
    unfold want
    simp
    omega
theorem sat_ok {k n : Int} (h0 : 0 < n) (h1 : n ≤ 4000000000000000000) : ∃ j, ephemeristop_sAt.f k n = some j ∧ 0 ≤ j ∧ j < n := by
  unfold ephemeristop_sAt.f
  rw [if_neg (by omega)]
  have a1 := Int.tmod_lt_of_pos k h0
  have a2 : -n < Int.tmod k n := by
    have := Int.lt_tmod_of_pos k h0
    omega
  rw [w64 (by omega) (by omega)]
  refine ⟨_, rfl, ?_, ?_⟩
  · exact Int.tmod_nonneg _ (by omega)
  · exact Int.tmod_lt_of_pos _ h0
theorem sat_pos {k n : Int} (h0 : 0 < n) (h1 : n ≤ 4000000000000000000) (k0 : 0 ≤ k) (k1 : k ≤ 4000000000000000000) : ephemeristop_sAt.f k n = some (k % n) := by
  have m0 := Int.emod_nonneg k (show n ≠ 0 by omega)
  have m1 := Int.emod_lt_of_pos k h0
  unfold ephemeristop_sAt.f
  rw [if_neg (by omega), Int.tmod_eq_emod_of_nonneg k0, w64 (by omega) (by omega), Int.tmod_eq_emod_of_nonneg (by omega), Int.add_emod_right, Int.emod_emod_of_dvd _ (Int.dvd_refl _)]
theorem branch {q W x w A0 A1 B0 B1 x2 y2 : Int} (q0 : 0 ≤ q) (q3 : q ≤ 3) (W0 : -70000000 ≤ W) (W1 : W ≤ 70000000) (hd : B0 ≤ W + 15000 ∧ W - 15000 ≤ B1) (en : Ev (fun k => season_Next.f k ((q + 1) % 4 * 250000000) w) (x2, y2, 0))
    (xb : -350000000000000 ≤ x ∧ x ≤ 350000000000000) (wb : -350000000000000 ≤ w ∧ w ≤ 350000000000000) (x2b : -350000000000000 ≤ x2 ∧ x2 ≤ 350000000000000) (y2b : -350000000000000 ≤ y2 ∧ y2 ≤ 350000000000000) (h1 : x2 - w > 7603200000) (h2 : y2 - x < 8208000000) :
    Ev (fun k => Sx.ob (ephemeristop_sAt.f (IntKind.i64.wrap (q + 1)) 4) fun t6 =>
    Sx.ob (season_Next.f k (IntKind.i64.wrap (t6 * 250000000)) w) fun t7 =>
    Sx.oif (((0 : Int) == 0) = true) (
     Sx.oif (((0 : Int) == 0) = true) (
      Sx.ob (ephemeristop_sMeets.f B0 B1 (IntKind.i64.wrap (W - 15000)) (IntKind.i64.wrap (W + 15000))) fun t8 =>
      Sx.oif (t8 = true) (
       Sx.oif ((t7.snd.snd == 0) = true) (
        Sx.oif (decide (IntKind.i64.wrap (t7.fst - w) > 7603200000) = true) (
         some (decide (IntKind.i64.wrap (t7.snd.fst - x) < 8208000000))) (
         some (false))) (
        some (false))) (
       some (false))) (
      some (false))) (
     some (false))) true := by
  simp only [PhaseT.iw]
  rw [w64 (x := q + 1) (by omega) (by omega), sat_pos (by omega) (by omega) (by omega) (by omega), w64 (x := W - 15000) (by omega) (by omega), w64 (x := W + 15000) (by omega) (by omega)]
  refine Ev.congr (fun k => by rw [Sx.ob_eq, Option.bind_some, w64 (x := (q + 1) % 4 * 250000000) (by omega) (by omega)]) ?_
  refine PhaseT.ob_ev en (ev_some 0 fun k => ?_)
  have hm : ephemeristop_sMeets.f B0 B1 (W - 15000) (W + 15000) = some true := by
    unfold ephemeristop_sMeets.f
    rw [if_pos hd.1]
    exact congrArg some (decide_eq_true hd.2)
  dsimp only
  rw [PhaseT.oif_pos (by rfl), PhaseT.oif_pos (by rfl), hm, Sx.ob_eq, Option.bind_some, PhaseT.oif_pos rfl, PhaseT.oif_pos (by rfl), w64 (x := x2 - w) (by omega) (by omega), PhaseT.oif_pos (decide_eq_true h1), w64 (x := y2 - x) (by omega) (by omega)]
  exact congrArg some (decide_eq_true h2)
theorem TopSeasons : PureX := by
  intro a b wa wb
  refine ev_k (g := fun k => ephemeristop_TopSeasons.f k a b) ?_
  obtain ⟨q, hq, q0, q3⟩ := sat_ok (k := a) (n := 4) (by omega) (by omega)
  obtain ⟨y, hy, y0, y1⟩ := sat_ok (k := b) (n := 18000) (by omega) (by omega)
  obtain ⟨x, w, lon, z, v, u, ef, hl, f1, xw, f2, f3, tx, vn, tw, up⟩ := sfind_ev (q := q) (y := y - 9000) q0 (by omega) (by omega) (by omega)
  obtain ⟨n1, n2⟩ := ny_bound (y := y - 9000) (by omega) (by omega)
  have vx : it x = 0 := if_pos ⟨by omega, by omega⟩
  have vw : it w = 0 := if_pos ⟨by omega, by omega⟩
  obtain ⟨dx, hdx, _, _, g1, _, _, _⟩ := tx
  obtain ⟨dw, hdw, _, _, _, _, g2, _⟩ := tw
  have g1 := g1 vn
  have g2 := g2 up
  have yu := Y_upper (z := z) (lon := lon) vx vw xw hdx hdw
  have xl : -18500 * 1048576 ≤ Y z lon x dx := by
    generalize Y z lon x dx = p at *
    generalize Y z lon w dw = r at *
    omega
  have wu : Y z lon w dw ≤ 18500 * 1048576 := by
    generalize Y z lon x dx = p at *
    generalize Y z lon w dw = r at *
    omega
  obtain ⟨al, ah, _, el, a0, a1, a2, a3, z', z1, z2⟩ := sun_ang vx hdx
  obtain ⟨A0, A1, B0, B1, δ, ea, B0l, B1h, d0, d1, hd⟩ := sun_dec el a0 a1 a2 a3
  have hal : ∃ e : Int, (∃ z : Int, al = q * 250000000 + e + z * 1000000000) ∧ -21000 ≤ e ∧ e ≤ 21000 := by
    refine ⟨al - lon - (z' - z) * 1000000000, ⟨lon / 1000000000 + (z' - z), by omega⟩, ?_, ?_⟩
    · unfold Y at xl
      omega
    · unfold Y at g1
      omega
  obtain ⟨e, he, e0, e1⟩ := hal
  have dn := dec_at q0 (by omega) he e0 e1 (by omega) (by omega) hd
  obtain ⟨bl, bh, dw', D, zz, _, b0, b1, b2, b3, hD, hdw', zz1, zz2, _, yes⟩ := next_ev (lon := (q + 1) % 4 * 250000000) (t := w) (by omega) (by omega) (if_pos ⟨by omega, by omega⟩) (if_pos ⟨by omega, by omega⟩)
  have ew := dp_uniq sL_good.1 hdw' hdw
  subst ew
  have hbl : ∃ c : Int, bl = q * 250000000 + c + (lon / 1000000000 + (zz - z)) * 1000000000 ∧ -10 ≤ c ∧ c ≤ 17000 := by
    refine ⟨bl - lon - (zz - z) * 1000000000, by omega, ?_, ?_⟩
    · unfold Y at g2
      omega
    · unfold Y at wu
      omega
  obtain ⟨c, hc, c0, c1⟩ := hbl
  have hDD : D = 250000000 - c := by
    rcases (show q = 0 ∨ q = 1 ∨ q = 2 ∨ q = 3 by omega) with rfl | rfl | rfl | rfl <;> omega
  obtain ⟨x2, y2, v2, u2, en, s0, s1, s2, s3, s4, s5, t2, v20, t2', u20⟩ := yes (by omega)
  have D2 : 91300 ≤ D * 1000 / 2737909 ∧ D * 1000 / 2737909 ≤ 91311 := by omega
  obtain ⟨ex, hex, _, _, k1, _, _, _⟩ := t2
  obtain ⟨ey, hey, _, _, _, _, k2, _⟩ := t2'
  have k1 := k1 v20
  have k2 := k2 u20
  have vx2 : it x2 = 0 := if_pos ⟨by omega, by omega⟩
  have vy2 : it y2 = 0 := if_pos ⟨by omega, by omega⟩
  have y0w : Y zz (bl + D) w dw' ≤ (2005 - D) * 1048576 + 160 ∧ (2000 - D) * 1048576 - 160 ≤ Y zz (bl + D) w dw' := by
    unfold Y; omega
  have r1 := (Y_quarter (z := zz) (lon := bl + D) vw vx2 (by omega) (by omega) hdw' hex).2
  have r2 := (Y_quarter (z := zz) (lon := bl + D) vw vy2 (by omega) (by omega) hdw' hey).1
  have len1 : x2 - w > 7603200000 := by
    generalize Y zz (bl + D) w dw' = p at *
    generalize Y zz (bl + D) y2 ey = r at *
    omega
  have len2 : y2 - x < 8208000000 := by
    generalize Y zz (bl + D) w dw' = p at *
    generalize Y zz (bl + D) x2 ex = r at *
    omega
  have br := branch (q := q) (W := want q) (x := x) (w := w) (A0 := A0) (A1 := A1) (B0 := B0) (B1 := B1) q0 (by omega) (by unfold want; (repeat' split) <;> omega) (by unfold want; (repeat' split) <;> omega) ⟨by omega, by omega⟩ en ⟨by omega, by omega⟩ ⟨by omega, by omega⟩ ⟨by omega, by omega⟩ ⟨by omega, by omega⟩ len1 len2
  unfold ephemeristop_TopSeasons.f
  refine PhaseT.ob_ev sky_works ?_
  refine Ev.congr (fun k => PhaseT.oif_neg (by simp)) ?_
  refine Ev.congr (fun k => by rw [hq, Sx.ob_eq, Option.bind_some, hy, Sx.ob_eq, Option.bind_some, PhaseT.iw (y - 9000), w64 (x := y - 9000) (by omega) (by omega)]) ?_
  refine PhaseT.ob_ev ef (PhaseT.ob_ev ea ?_)
  dsimp only
  rcases (show q = 0 ∨ q = 1 ∨ q = 2 ∨ q = 3 by omega) with rfl | rfl | rfl | rfl
  · exact Ev.congr (fun k => PhaseT.oif_pos rfl) br
  · exact Ev.congr (fun k => (PhaseT.oif_neg (by decide)).trans (PhaseT.oif_pos (by decide))) br
  · exact Ev.congr (fun k => (PhaseT.oif_neg (by decide)).trans ((PhaseT.oif_neg (by decide)).trans (PhaseT.oif_pos (by decide)))) br
  · exact Ev.congr (fun k => (PhaseT.oif_neg (by decide)).trans ((PhaseT.oif_neg (by decide)).trans ((PhaseT.oif_neg (by decide)).trans (PhaseT.oif_pos (by decide))))) br
end Go.Proofs.Ytmahlfjnejbcnaa.Pure
