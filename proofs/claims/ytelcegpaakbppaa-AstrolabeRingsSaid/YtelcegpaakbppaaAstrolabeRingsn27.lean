/- AstrolabeRings: Ring contains the radius of the circle of a declination. -/
import Derived.Test.YtelcegpaakbppaaAstrolabeRingsn13
import Derived.Test.YtelcegpaakbppaaAstrolabeRingsn26
namespace Go.Proofs.Ytelcegpaakbppaa.Pure
open Go Go.RowKit Go.Proofs.YtelcegpaakbppaaW.PrintWords Go.Proofs.YtelcegpaakbppaaW.PrintLast Go.Proofs.YtelcegpaakbppaaW.PrintMore Go.Proofs.Ytelcegpaakbppaa.Opn Go.Proofs.Ytelcegpaakbppaa.PAll Go.Proofs.Ytelcegpaakbppaa.Base Go.Proofs.Ytelcegpaakbppaa.WideN Go.Proofs.Ytelcegpaakbppaa.WideT Go.Proofs.Ytelcegpaakbppaa.IvalG Go.Proofs.Ytelcegpaakbppaa.Turn Go.Proofs.Ytelcegpaakbppaa.OctT Go.Proofs.Ytelcegpaakbppaa.SinT Go.Proofs.Ytelcegpaakbppaa.RefT Go.Proofs.Ytelcegpaakbppaa.Circ Go.Proofs.Ytelcegpaakbppaa.AngT Go.Proofs.Ytelcegpaakbppaa.AstroT
set_option linter.unusedVariables false
set_option linter.unusedSimpArgs false
theorem none_same (x : Int) : ephemerislaw2_none.f 0 0 x x = some true := by unfold ephemerislaw2_none.f; rw [if_pos rfl]; rfl
theorem works_ev : Ev (fun k => ephemerislaw2_astrolabeWorks.f k) true := Ev.of ephemerislaw2_astrolabeWorks.mono (k := 100) (by decide +kernel)
theorem plus_at (k : Nat) {a b c d : Int} (h1 : -2000000000 ≤ a) (h2 : a ≤ 2000000000) (h3 : -2000000000 ≤ b) (h4 : b ≤ 2000000000) (h5 : -2000000000 ≤ c) (h6 : c ≤ 2000000000) (h7 : -2000000000 ≤ d) (h8 : d ≤ 2000000000) : astrolabe_plus.f k a b c d = some (a + c, b + d) := by
  unfold astrolabe_plus.f
  rw [iw, iw, w64 (by omega) (by omega), w64 (by omega) (by omega)]
theorem box_ints {l h : Int} {w : Rat} (b : Box l h w) (w0 : -(99 / 100) ≤ w) (w1 : w ≤ 1) : mx (-1000000000) l = l ∧ l ≤ mn 1000000000 h ∧ mn 1000000000 h ≤ 1000000000 ∧ mn 1000000000 h - l ≤ 3 ∧ -1000000000 ≤ l ∧ l ≤ 1000000000 := by
  have lo := lo_un b w0
  obtain ⟨x1, x2, x3⟩ := b
  have c1 : l ≤ 1000000000 := by
    refine int_of_rat ?_
    push_cast
    grind
  refine ⟨lo, ?_, ?_, ?_, ?_, c1⟩
  · unfold mn; split <;> omega
  · unfold mn; split <;> omega
  · unfold mn; split <;> omega
  · unfold mx at lo; split at lo <;> omega
theorem box_hi {l h : Int} {w : Rat} (b : Box l h w) (w1 : w ≤ 1) : 1000000000 * w ≤ ((mn 1000000000 h : Int) : Rat) := by
  obtain ⟨x1, x2, x3⟩ := b
  unfold mn
  split
  · push_cast; grind
  · grind
/-- Ring -/
theorem ring_ev {d : Int} (h0 : -195000000 ≤ d) (h1 : d ≤ 250000000) : ∃ L H, Ev (fun k => astrolabe_Ring.f k d) (L, H, 0) ∧ RR L H (cosT (st (d % 1000000000))) (1 + sinT (st (d % 1000000000))) := by
  obtain ⟨l, h, sf, sb⟩ := sin_tells (a := d) (by omega) (by omega)
  obtain ⟨cl, ch, cf, cb⟩ := cos_tells (a := d) (by omega) (by omega)
  have r0 : 0 ≤ d % 1000000000 := by omega
  have r1 : d % 1000000000 < 1000000000 := by omega
  have ec : (d + 250000000) % 1000000000 = (d % 1000000000 + 250000000) % 1000000000 := by omega
  rw [ec] at cb
  obtain ⟨n1, n2⟩ := cos_near r0 r1
  obtain ⟨a1, a2⟩ := dec_low h0 h1
  obtain ⟨t1, t2, t3, t4⟩ := T_bound (st (d % 1000000000))
  generalize sinT (st (d % 1000000000)) = σ at *
  generalize cosT (st (d % 1000000000)) = γ at *
  generalize sinT (st ((d % 1000000000 + 250000000) % 1000000000)) = wc at *
  obtain ⟨i1, i2, i3, i4, i5, i6⟩ := box_ints sb (by grind) t4
  have b0 : -941500000 ≤ l := by
    have := box_rat sb
    have x3 := sb.2.2
    refine int_of_rat ?_
    push_cast
    grind
  have hb := box_hi sb t4
  obtain ⟨L, H, e, R⟩ := ratio_of (Bl := 1000000000 + l) (Bh := 1000000000 + mn 1000000000 h) (δ := 1 + σ) cb n1 n2 a2 t2 (by omega) (by omega) (by omega) (by omega) (by
    have x2 := sb.2.1
    push_cast
    grind) (by push_cast; grind)
  refine ⟨L, H, ?_, R⟩
  unfold astrolabe_Ring.f
  refine Ev.congr (fun k => oif_neg (by rw [decide_eq_true_eq]; omega)) ?_
  refine Ev.congr (fun k => oif_neg (by rw [decide_eq_true_eq]; omega)) ?_
  refine ob_ev (ev_some 10 fun k => sf k) (ob_ev (ev_some 10 fun k => cf k) ?_)
  rw [i1]
  dsimp only
  refine ob_ev (ev_some 0 fun k => plus_at k (by omega) (by omega) (by omega) (by omega) (by omega) (by omega) (by omega) (by omega)) ?_
  exact ob_ev e (ev_some 0 fun k => rfl)
theorem AstrolabeRings : PureX := by
  intro d hd
  refine ev_k ?_
  unfold ephemerislaw2_AstrolabeRings.f
  refine ob_ev works_ev ?_
  refine Ev.congr (fun k => oif_pos rfl) ?_
  by_cases c1 : d < -195000000
  · refine ob_ev (a := (0, 0, 3)) (ev_some 0 fun k => by unfold astrolabe_Ring.f; rw [oif_pos (by rw [decide_eq_true_eq]; exact c1)]) ?_
    exact ev_some 0 fun k => by rw [oif_pos (by rw [decide_eq_true_eq]; exact c1), none_same]; rfl
  by_cases c2 : d > 250000000
  · refine ob_ev (a := (0, 0, 3)) (ev_some 0 fun k => by unfold astrolabe_Ring.f; rw [oif_neg (by rw [decide_eq_true_eq]; exact c1), oif_pos (by rw [decide_eq_true_eq]; exact c2)]) ?_
    exact ev_some 0 fun k => by rw [oif_neg (by rw [decide_eq_true_eq]; exact c1), oif_pos (by rw [decide_eq_true_eq]; exact c2), none_same]; rfl
  obtain ⟨L, H, e, R⟩ := ring_ev (d := d) (by omega) (by omega)
  refine ob_ev e ?_
  dsimp only
  refine Ev.congr (fun k => oif_neg (by rw [decide_eq_true_eq]; exact c1)) ?_
  refine Ev.congr (fun k => oif_neg (by rw [decide_eq_true_eq]; exact c2)) ?_
  rw [iw, w64 (x := d * 1000000) (by omega) (by omega)]
  obtain ⟨s, c, rf, ⟨e1, e2⟩, ⟨e3, e4⟩, ⟨e5, e6⟩, e7, e8⟩ := sincos_tells (a := d * 1000000) (by omega)
  rw [show d * 1000000 % 1000000000000000 = d % 1000000000 * 1000000 by omega, ag_st (by omega)] at e1 e2 e3 e4
  refine ob_ev (ev_some 13 fun k => rf k) ?_
  refine Ev.congr (fun k => oif_pos rfl) ?_
  obtain ⟨g1, g2⟩ := half_at s
  have e : IntKind.i64.wrap (576460752303423488 + IntKind.i64.wrap (s.tdiv 2)) = 576460752303423488 + s.tdiv 2 := by
    rw [iw, iw, w64 (x := s.tdiv 2) (by omega) (by omega), w64 (by omega) (by omega)]
  rw [e]
  have B1 := cle (show 1152921504606846976 + s - 1 ≤ 2 * (576460752303423488 + s.tdiv 2) by omega)
  have B2 := cle (show 2 * (576460752303423488 + s.tdiv 2) ≤ 1152921504606846976 + s + 1 by omega)
  have d0 : -3300000 ≤ ((2 * (576460752303423488 + s.tdiv 2) : Int) : Rat) - u * (1 + sinT (st (d % 1000000000))) := by
    push_cast at B1 B2 ⊢
    rw [u_eq] at *
    generalize sinT (st (d % 1000000000)) = σ at *
    clear R
    grind
  have d1 : ((2 * (576460752303423488 + s.tdiv 2) : Int) : Rat) - u * (1 + sinT (st (d % 1000000000))) ≤ 3300000 := by
    push_cast at B1 B2 ⊢
    rw [u_eq] at *
    generalize sinT (st (d % 1000000000)) = σ at *
    clear R
    grind
  obtain ⟨f1, f2⟩ := R.fits (a := c) (B := 576460752303423488 + s.tdiv 2) (by grind) (by grind) d0 d1
  have l0 := R.l0
  have l1 := R.le
  have l2 := R.h1
  have l3 := R.wide
  exact ob_ev (inratio_ev (by omega) (by omega) (by omega) (by omega) (by omega) (by omega) (by omega) (by omega) f1 f2 l1 l3) (ev_some 0 fun k => rfl)
end Go.Proofs.Ytelcegpaakbppaa.Pure
