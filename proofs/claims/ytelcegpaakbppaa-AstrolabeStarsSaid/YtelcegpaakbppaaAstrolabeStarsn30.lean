/- AstrolabeStars: Star contains the coordinates of a star. -/
import Derived.Test.YtelcegpaakbppaaAstrolabeStarsn29
import Derived.Test.YtelcegpaakbppaaAstrolabeStarsn15
import Derived.Test.YtelcegpaakbppaaAstrolabeStarsn28
namespace Go.Proofs.Ytelcegpaakbppaa.Pure
open Go Go.RowKit Go.Proofs.YtelcegpaakbppaaW.PrintWords Go.Proofs.YtelcegpaakbppaaW.PrintLast Go.Proofs.YtelcegpaakbppaaW.PrintMore Go.Proofs.Ytelcegpaakbppaa.Opn Go.Proofs.Ytelcegpaakbppaa.PAll Go.Proofs.Ytelcegpaakbppaa.Base Go.Proofs.Ytelcegpaakbppaa.WideN Go.Proofs.Ytelcegpaakbppaa.WideT Go.Proofs.Ytelcegpaakbppaa.IvalG Go.Proofs.Ytelcegpaakbppaa.Turn Go.Proofs.Ytelcegpaakbppaa.OctT Go.Proofs.Ytelcegpaakbppaa.SinT Go.Proofs.Ytelcegpaakbppaa.RefT Go.Proofs.Ytelcegpaakbppaa.Circ Go.Proofs.Ytelcegpaakbppaa.AngT Go.Proofs.Ytelcegpaakbppaa.AstroT
set_option linter.unusedVariables false
set_option linter.unusedSimpArgs false
theorem none_same (x : Int) : ephemerislaw2_none.f 0 0 x x = some true := by unfold ephemerislaw2_none.f; rw [if_pos rfl]; rfl
theorem works_ev : Ev (fun k => ephemerislaw2_astrolabeWorks.f k) true := Ev.of ephemerislaw2_astrolabeWorks.mono (k := 100) (by decide +kernel)
open Go.Proofs.Ytelcegpaakbppaa.StarP Go.Proofs.Ytelcegpaakbppaa.Fix
theorem plus_at (k : Nat) {a b c d : Int} (h1 : -2000000000 ≤ a) (h2 : a ≤ 2000000000) (h3 : -2000000000 ≤ b) (h4 : b ≤ 2000000000) (h5 : -2000000000 ≤ c) (h6 : c ≤ 2000000000) (h7 : -2000000000 ≤ d) (h8 : d ≤ 2000000000) : astrolabe_plus.f k a b c d = some (a + c, b + d) := by
  unfold astrolabe_plus.f
  rw [iw, iw, w64 (by omega) (by omega), w64 (by omega) (by omega)]
theorem box_ints {l h : Int} {w : Rat} (b : Box l h w) (w0 : -(99 / 100) ≤ w) (w1 : w ≤ 1) : mx (-1000000000) l = l ∧ l ≤ mn 1000000000 h ∧ mn 1000000000 h ≤ 1000000000 ∧ mn 1000000000 h - l ≤ 3 ∧ -1000000000 ≤ l ∧ l ≤ 1000000000 := by
  have lo := lo_un b w0
  obtain ⟨x1, x2, x3⟩ := b
  have c1 : l ≤ 1000000000 := by
    refine int_of_rat ?_
    push_cast
    grind
  refine ⟨lo, ?_, ?_, ?_, ?_, c1⟩
  · unfold mn; split <;> omega
  · unfold mn; split <;> omega
  · unfold mn; split <;> omega
  · unfold mx at lo; split at lo <;> omega
theorem box_hi {l h : Int} {w : Rat} (b : Box l h w) (w1 : w ≤ 1) : 1000000000 * w ≤ ((mn 1000000000 h : Int) : Rat) := by
  obtain ⟨x1, x2, x3⟩ := b
  unfold mn
  split
  · push_cast; grind
  · grind
/-- Ring -/
theorem ring_ev {d : Int} (h0 : -195000000 ≤ d) (h1 : d ≤ 250000000) : ∃ L H, Ev (fun k => astrolabe_Ring.f k d) (L, H, 0) ∧ RR L H (cosT (st (d % 1000000000))) (1 + sinT (st (d % 1000000000))) := by
  obtain ⟨l, h, sf, sb⟩ := sin_tells (a := d) (by omega) (by omega)
  obtain ⟨cl, ch, cf, cb⟩ := cos_tells (a := d) (by omega) (by omega)
  have r0 : 0 ≤ d % 1000000000 := by omega
  have r1 : d % 1000000000 < 1000000000 := by omega
  have ec : (d + 250000000) % 1000000000 = (d % 1000000000 + 250000000) % 1000000000 := by omega
  rw [ec] at cb
  obtain ⟨n1, n2⟩ := cos_near r0 r1
  obtain ⟨a1, a2⟩ := dec_low h0 h1
  obtain ⟨t1, t2, t3, t4⟩ := T_bound (st (d % 1000000000))
  generalize sinT (st (d % 1000000000)) = σ at *
  generalize cosT (st (d % 1000000000)) = γ at *
  generalize sinT (st ((d % 1000000000 + 250000000) % 1000000000)) = wc at *
  obtain ⟨i1, i2, i3, i4, i5, i6⟩ := box_ints sb (by grind) t4
  have b0 : -941500000 ≤ l := by
    have := box_rat sb
    have x3 := sb.2.2
    refine int_of_rat ?_
    push_cast
    grind
  have hb := box_hi sb t4
  obtain ⟨L, H, e, R⟩ := ratio_of (Bl := 1000000000 + l) (Bh := 1000000000 + mn 1000000000 h) (δ := 1 + σ) cb n1 n2 a2 t2 (by omega) (by omega) (by omega) (by omega) (by
    have x2 := sb.2.1
    push_cast
    grind) (by push_cast; grind)
  refine ⟨L, H, ?_, R⟩
  unfold astrolabe_Ring.f
  refine Ev.congr (fun k => oif_neg (by rw [decide_eq_true_eq]; omega)) ?_
  refine Ev.congr (fun k => oif_neg (by rw [decide_eq_true_eq]; omega)) ?_
  refine ob_ev (ev_some 10 fun k => sf k) (ob_ev (ev_some 10 fun k => cf k) ?_)
  rw [i1]
  dsimp only
  refine ob_ev (ev_some 0 fun k => plus_at k (by omega) (by omega) (by omega) (by omega) (by omega) (by omega) (by omega) (by omega)) ?_
  exact ob_ev e (ev_some 0 fun k => rfl)
theorem AstrolabeStars : PureX := by
  intro ra d hra hd
  refine ev_k ?_
  unfold ephemerislaw2_AstrolabeStars.f
  refine ob_ev works_ev ?_
  refine Ev.congr (fun k => oif_pos rfl) ?_
  have bad : ∀ x : Int, Sx.ob (ephemerislaw2_none.f 0 0 x x) (fun t3 => Sx.oif (t3 = true) (some (((0 : Int) == 0) && (((0 : Int) == 0) && true))) (some false)) = some true := by
    intro x
    rw [none_same, Sx.ob_eq, Option.bind_some, oif_pos rfl]; rfl
  by_cases c1 : d < -195000000
  · refine ob_ev (a := (0, 0, 0, 0, 3)) (ev_some 0 fun k => by unfold astrolabe_Star.f astrolabe_Ring.f; rw [oif_pos (c := decide (d < -195000000) = true) (by rw [decide_eq_true_eq]; exact c1)]; rfl) ?_
    exact ev_some 0 fun k => by rw [oif_pos (by rw [decide_eq_true_eq]; exact c1)]; exact bad 3
  by_cases c2 : d > 250000000
  · refine ob_ev (a := (0, 0, 0, 0, 3)) (ev_some 0 fun k => by unfold astrolabe_Star.f astrolabe_Ring.f; rw [oif_neg (c := decide (d < -195000000) = true) (by rw [decide_eq_true_eq]; exact c1), oif_pos (c := decide (d > 250000000) = true) (by rw [decide_eq_true_eq]; exact c2)]; rfl) ?_
    exact ev_some 0 fun k => by rw [oif_neg (by rw [decide_eq_true_eq]; exact c1), oif_pos (by rw [decide_eq_true_eq]; exact c2)]; exact bad 3
  obtain ⟨L, H, er, R⟩ := ring_ev (d := d) (by omega) (by omega)
  by_cases c3 : ra < 0
  · refine ob_ev (a := (0, 0, 0, 0, 1)) ?_ ?_
    · unfold astrolabe_Star.f
      refine ob_ev er (ev_some 0 fun k => ?_)
      rw [oif_neg (by simp), oif_pos (by rw [decide_eq_true_eq]; exact c3)]
    · exact ev_some 0 fun k => by rw [oif_neg (by rw [decide_eq_true_eq]; exact c1), oif_neg (by rw [decide_eq_true_eq]; exact c2), oif_pos (by rw [decide_eq_true_eq]; exact c3)]; exact bad 1
  by_cases c4 : ra > 999999999
  · refine ob_ev (a := (0, 0, 0, 0, 1)) ?_ ?_
    · unfold astrolabe_Star.f
      refine ob_ev er (ev_some 0 fun k => ?_)
      rw [oif_neg (by simp), oif_neg (by rw [decide_eq_true_eq]; exact c3), oif_pos (by rw [decide_eq_true_eq]; omega)]
    · exact ev_some 0 fun k => by rw [oif_neg (by rw [decide_eq_true_eq]; exact c1), oif_neg (by rw [decide_eq_true_eq]; exact c2), oif_neg (by rw [decide_eq_true_eq]; exact c3), oif_pos (by rw [decide_eq_true_eq]; exact c4)]; exact bad 1
  obtain ⟨_, a2⟩ := dec_low (d := d) (by omega) (by omega)
  have a1 := (dec_low (d := d) (by omega) (by omega)).1
  obtain ⟨t1, t2, t3, t4⟩ := T_bound (st (d % 1000000000))
  obtain ⟨l, h, sf, sb⟩ := sin_tells (a := ra) (by omega) (by omega)
  obtain ⟨cl, ch, cf, cb⟩ := cos_tells (a := ra) (by omega) (by omega)
  rw [show (ra + 250000000) % 1000000000 = (ra % 1000000000 + 250000000) % 1000000000 by omega] at cb
  obtain ⟨n1, n2⟩ := cos_near (r := ra % 1000000000) (by omega) (by omega)
  obtain ⟨v1, v2, v3, v4⟩ := T_bound (st (ra % 1000000000))
  obtain ⟨m, M, x, y, em, es, x1, x2, x3, x4, xf⟩ := coord_ev R cb n1 n2 v1 v2 a2 t2 (by grind)
  obtain ⟨m', M', x', y', em', es', x1', x2', x3', x4', xf'⟩ := coord_ev R sb (κ := sinT (st (ra % 1000000000))) (by grind) (by grind) v3 v4 a2 t2 (by grind)
  refine ob_ev (a := (x, y, x', y', 0)) ?_ ?_
  · unfold astrolabe_Star.f
    refine ob_ev er ?_
    refine Ev.congr (fun k => oif_neg (by simp)) ?_
    refine Ev.congr (fun k => oif_neg (by rw [decide_eq_true_eq]; exact c3)) ?_
    refine Ev.congr (fun k => oif_neg (by rw [decide_eq_true_eq]; omega)) ?_
    refine ob_ev (ev_some 10 fun k => sf k) (ob_ev (ev_some 10 fun k => cf k) ?_)
    exact ob_ev em (ob_ev em' (ob_ev es (ob_ev es' (ev_some 0 fun k => rfl))))
  refine Ev.congr (fun k => oif_neg (by rw [decide_eq_true_eq]; exact c1)) ?_
  refine Ev.congr (fun k => oif_neg (by rw [decide_eq_true_eq]; exact c2)) ?_
  refine Ev.congr (fun k => oif_neg (by rw [decide_eq_true_eq]; exact c3)) ?_
  refine Ev.congr (fun k => oif_neg (by rw [decide_eq_true_eq]; exact c4)) ?_
  rw [iw, w64 (x := d * 1000000) (by omega) (by omega), iw, w64 (x := ra * 1000000) (by omega) (by omega)]
  obtain ⟨s, c, rf, ⟨e1, e2⟩, ⟨e3, e4⟩, ⟨e5, e6⟩, e7, e8⟩ := sincos_tells (a := d * 1000000) (by omega)
  rw [show d * 1000000 % 1000000000000000 = d % 1000000000 * 1000000 by omega, ag_st (by omega)] at e1 e2 e3 e4
  obtain ⟨s', c', rf', ⟨e1', e2'⟩, ⟨e3', e4'⟩, ⟨e5', e6'⟩, e7', e8'⟩ := sincos_tells (a := ra * 1000000) (by omega)
  rw [show ra * 1000000 % 1000000000000000 = ra % 1000000000 * 1000000 by omega, ag_st (by omega)] at e1' e2' e3' e4'
  refine ob_ev (ev_some 13 fun k => rf k) (ob_ev (ev_some 13 fun k => rf' k) ?_)
  refine Ev.congr (fun k => oif_pos rfl) ?_
  dsimp only
  obtain ⟨g1, g2⟩ := half_at s
  have e : IntKind.i64.wrap (576460752303423488 + IntKind.i64.wrap (s.tdiv 2)) = 576460752303423488 + s.tdiv 2 := by
    rw [iw, iw, w64 (x := s.tdiv 2) (by omega) (by omega), w64 (by omega) (by omega)]
  rw [e]
  have B1 := cle (show 1152921504606846976 + s - 1 ≤ 2 * (576460752303423488 + s.tdiv 2) by omega)
  have B2 := cle (show 2 * (576460752303423488 + s.tdiv 2) ≤ 1152921504606846976 + s + 1 by omega)
  have d0 : -1700000 ≤ ((2 * (576460752303423488 + s.tdiv 2) : Int) : Rat) - u * (1 + sinT (st (d % 1000000000))) := by
    push_cast at B1 B2 ⊢
    rw [u_eq] at *
    generalize sinT (st (d % 1000000000)) = σ at *
    clear R xf xf'
    grind
  have d1 : ((2 * (576460752303423488 + s.tdiv 2) : Int) : Rat) - u * (1 + sinT (st (d % 1000000000))) ≤ 1700000 := by
    push_cast at B1 B2 ⊢
    rw [u_eq] at *
    generalize sinT (st (d % 1000000000)) = σ at *
    clear R xf xf'
    grind
  have P := pr_of (c := c) (k := c') e3 e4 e3' e4' a2 t2 v1 v2
  have P' := pr_of (c := c) (k := s') e3 e4 e1' e2' a2 t2 v3 v4
  obtain ⟨f1, f2⟩ := xf _ _ P d0 d1
  obtain ⟨f3, f4⟩ := xf' _ _ P' d0 d1
  have bnd : ∀ (a : Int) (κ : Rat), Pr a (cosT (st (d % 1000000000))) κ → -1 ≤ κ → κ ≤ 1 → -1200000000000000000 ≤ a ∧ a ≤ 1200000000000000000 := by
    intro a κ P k0 k1
    obtain ⟨p1, p2⟩ := P.big
    obtain ⟨q1, q2⟩ := OctT.abs_mul t1 t2 k0 k1
    rw [u_eq] at *
    generalize cosT (st (d % 1000000000)) * κ = ω at *
    constructor
    · refine int_of_rat ?_
      push_cast
      clear R xf xf' P
      grind
    · refine int_of_rat ?_
      push_cast
      clear R xf xf' P
      grind
  obtain ⟨o1, o2⟩ := bnd _ _ P v1 v2
  obtain ⟨o3, o4⟩ := bnd _ _ P' v3 v4
  have mc : ephemerisref2_Mul.f c c' = some (rm c c') := ref_mul_ok (by omega) (by omega) (by omega) (by omega)
  have ms : ephemerisref2_Mul.f c s' = some (rm c s') := ref_mul_ok (by omega) (by omega) (by omega) (by omega)
  refine ob_ev (ev_some 0 fun k => mc) ?_
  refine ob_ev (inratio_ev (by omega) (by omega) (by omega) (by omega) o1 o2 (by omega) (by omega) f1 f2 x1 x2) ?_
  refine Ev.congr (fun k => oif_pos rfl) ?_
  refine ob_ev (ev_some 0 fun k => ms) ?_
  exact ob_ev (inratio_ev (by omega) (by omega) (by omega) (by omega) o3 o4 (by omega) (by omega) f3 f4 x1' x2') (ev_some 0 fun k => rfl)
end Go.Proofs.Ytelcegpaakbppaa.Pure
