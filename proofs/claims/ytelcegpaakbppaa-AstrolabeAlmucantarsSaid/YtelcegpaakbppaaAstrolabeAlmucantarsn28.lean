/- AstrolabeAlmucantars: Almucantar contains the distance and the radius of the circle of an altitude. -/
import Derived.Test.YtelcegpaakbppaaAstrolabeAlmucantarsn14
import Derived.Test.YtelcegpaakbppaaAstrolabeAlmucantarsn27
namespace Go.Proofs.Ytelcegpaakbppaa.Pure
open Go Go.RowKit Go.Proofs.YtelcegpaakbppaaW.PrintWords Go.Proofs.YtelcegpaakbppaaW.PrintLast Go.Proofs.YtelcegpaakbppaaW.PrintMore Go.Proofs.Ytelcegpaakbppaa.Opn Go.Proofs.Ytelcegpaakbppaa.PAll Go.Proofs.Ytelcegpaakbppaa.Base Go.Proofs.Ytelcegpaakbppaa.WideN Go.Proofs.Ytelcegpaakbppaa.WideT Go.Proofs.Ytelcegpaakbppaa.IvalG Go.Proofs.Ytelcegpaakbppaa.Turn Go.Proofs.Ytelcegpaakbppaa.OctT Go.Proofs.Ytelcegpaakbppaa.SinT Go.Proofs.Ytelcegpaakbppaa.RefT Go.Proofs.Ytelcegpaakbppaa.Circ Go.Proofs.Ytelcegpaakbppaa.AngT Go.Proofs.Ytelcegpaakbppaa.AstroT
set_option linter.unusedVariables false
set_option linter.unusedSimpArgs false
theorem none_same (x : Int) : ephemerislaw2_none.f 0 0 x x = some true := by unfold ephemerislaw2_none.f; rw [if_pos rfl]; rfl
theorem works_ev : Ev (fun k => ephemerislaw2_astrolabeWorks.f k) true := Ev.of ephemerislaw2_astrolabeWorks.mono (k := 100) (by decide +kernel)
theorem plus_at (k : Nat) {a b c d : Int} (h1 : -2000000000 ≤ a) (h2 : a ≤ 2000000000) (h3 : -2000000000 ≤ b) (h4 : b ≤ 2000000000) (h5 : -2000000000 ≤ c) (h6 : c ≤ 2000000000) (h7 : -2000000000 ≤ d) (h8 : d ≤ 2000000000) : astrolabe_plus.f k a b c d = some (a + c, b + d) := by
  unfold astrolabe_plus.f
  rw [iw, iw, w64 (by omega) (by omega), w64 (by omega) (by omega)]
theorem box_ints {l h : Int} {w : Rat} (b : Box l h w) (w0 : -(99 / 100) ≤ w) (w1 : w ≤ 1) : mx (-1000000000) l = l ∧ l ≤ mn 1000000000 h ∧ mn 1000000000 h ≤ 1000000000 ∧ mn 1000000000 h - l ≤ 3 ∧ -1000000000 ≤ l ∧ l ≤ 1000000000 := by
  have lo := lo_un b w0
  obtain ⟨x1, x2, x3⟩ := b
  have c1 : l ≤ 1000000000 := by
    refine int_of_rat ?_
    push_cast
    grind
  refine ⟨lo, ?_, ?_, ?_, ?_, c1⟩
  · unfold mn; split <;> omega
  · unfold mn; split <;> omega
  · unfold mn; split <;> omega
  · unfold mx at lo; split at lo <;> omega
theorem box_hi {l h : Int} {w : Rat} (b : Box l h w) (w1 : w ≤ 1) : 1000000000 * w ≤ ((mn 1000000000 h : Int) : Rat) := by
  obtain ⟨x1, x2, x3⟩ := b
  unfold mn
  split
  · push_cast; grind
  · grind
/-- Almucantar -/
theorem alm_ev {p a : Int} (h0 : 10000000 ≤ p) (h1 : p ≤ 220000000) (g0 : 0 ≤ a) (g1 : a ≤ 220000000) : ∃ L H M N, Ev (fun k => astrolabe_Almucantar.f k p a) (L, H, M, N, 0) ∧ RR L H (cosT (st (p % 1000000000))) (sinT (st (p % 1000000000)) + sinT (st (a % 1000000000))) ∧
    RR M N (cosT (st (a % 1000000000))) (sinT (st (p % 1000000000)) + sinT (st (a % 1000000000))) := by
  obtain ⟨l, h, sf, sb⟩ := sin_tells (a := p) (by omega) (by omega)
  obtain ⟨cl, ch, cf, cb⟩ := cos_tells (a := p) (by omega) (by omega)
  obtain ⟨l', h', sf', sb'⟩ := sin_tells (a := a) (by omega) (by omega)
  obtain ⟨cl', ch', cf', cb'⟩ := cos_tells (a := a) (by omega) (by omega)
  rw [show (p + 250000000) % 1000000000 = (p % 1000000000 + 250000000) % 1000000000 by omega] at cb
  rw [show (a + 250000000) % 1000000000 = (a % 1000000000 + 250000000) % 1000000000 by omega] at cb'
  obtain ⟨n1, n2⟩ := cos_near (r := p % 1000000000) (by omega) (by omega)
  obtain ⟨n1', n2'⟩ := cos_near (r := a % 1000000000) (by omega) (by omega)
  obtain ⟨_, a2⟩ := dec_low (d := p) (by omega) (by omega)
  obtain ⟨_, a2'⟩ := dec_low (d := a) (by omega) (by omega)
  have a1 := lat_low (d := p) h0 (by omega)
  have a1' : -(1 / 1000000000000) ≤ sinT (st (a % 1000000000)) := by
    rw [show a % 1000000000 = a by omega]
    obtain ⟨f1, _⟩ := first_quarter (n := st a) (st_n4 (by omega))
    generalize sinT (st a) = z at *
    grind
  obtain ⟨t1, t2, t3, t4⟩ := T_bound (st (p % 1000000000))
  obtain ⟨t1', t2', t3', t4'⟩ := T_bound (st (a % 1000000000))
  generalize sinT (st (p % 1000000000)) = σ at *
  generalize cosT (st (p % 1000000000)) = γ at *
  generalize sinT (st ((p % 1000000000 + 250000000) % 1000000000)) = wc at *
  generalize sinT (st (a % 1000000000)) = σ' at *
  generalize cosT (st (a % 1000000000)) = γ' at *
  generalize sinT (st ((a % 1000000000 + 250000000) % 1000000000)) = wc' at *
  obtain ⟨i1, i2, i3, i4, i5, i6⟩ := box_ints sb (by grind) t4
  obtain ⟨j1, j2, j3, j4, j5, j6⟩ := box_ints sb' (by grind) t4'
  have b0 : 62000000 ≤ l := by
    have := box_rat sb
    have x3 := sb.2.2
    refine int_of_rat ?_
    push_cast
    grind
  have b0' : -5 ≤ l' := by
    have := box_rat sb'
    have x3 := sb'.2.2
    refine int_of_rat ?_
    push_cast
    grind
  have hb := box_hi sb t4
  have hb' := box_hi sb' t4'
  have dl : ((l + l' : Int) : Rat) ≤ 1000000000 * (σ + σ') - 99 / 100 := by
    have x2 := sb.2.1
    have x2' := sb'.2.1
    push_cast
    grind
  have dh : 1000000000 * (σ + σ') ≤ ((mn 1000000000 h + mn 1000000000 h' : Int) : Rat) := by push_cast; grind
  obtain ⟨L, H, e, R⟩ := ratio_of (Bl := l + l') (Bh := mn 1000000000 h + mn 1000000000 h') (δ := σ + σ') cb n1 n2 a2 t2 (by omega) (by omega) (by omega) (by omega) dl dh
  obtain ⟨M, N, e', R'⟩ := ratio_of (Bl := l + l') (Bh := mn 1000000000 h + mn 1000000000 h') (δ := σ + σ') cb' n1' n2' a2' t2' (by omega) (by omega) (by omega) (by omega) dl dh
  refine ⟨L, H, M, N, ?_, R, R'⟩
  unfold astrolabe_Almucantar.f
  refine Ev.congr (fun k => oif_neg (by rw [decide_eq_true_eq]; omega)) ?_
  refine Ev.congr (fun k => oif_neg (by rw [decide_eq_true_eq]; omega)) ?_
  refine Ev.congr (fun k => oif_neg (by rw [decide_eq_true_eq]; omega)) ?_
  refine Ev.congr (fun k => oif_neg (by rw [decide_eq_true_eq]; omega)) ?_
  refine ob_ev (ev_some 10 fun k => sf k) (ob_ev (ev_some 10 fun k => cf k) (ob_ev (ev_some 10 fun k => sf' k) (ob_ev (ev_some 10 fun k => cf' k) ?_)))
  rw [i1, j1]
  dsimp only
  refine ob_ev (ev_some 0 fun k => plus_at k (by omega) (by omega) (by omega) (by omega) (by omega) (by omega) (by omega) (by omega)) ?_
  exact ob_ev e (ob_ev e' (ev_some 0 fun k => rfl))
theorem AstrolabeAlmucantars : PureX := by
  intro p a hp ha
  refine ev_k ?_
  unfold ephemerislaw2_AstrolabeAlmucantars.f
  refine ob_ev works_ev ?_
  refine Ev.congr (fun k => oif_pos rfl) ?_
  have bad : ∀ x : Int, Sx.ob (ephemerislaw2_none.f 0 0 x x) (fun t3 => Sx.oif (t3 = true) (some (((0 : Int) == 0) && (((0 : Int) == 0) && true))) (some false)) = some true := by
    intro x
    rw [none_same, Sx.ob_eq, Option.bind_some, oif_pos rfl]; rfl
  by_cases c1 : p < 10000000
  · refine ob_ev (a := (0, 0, 0, 0, 3)) (ev_some 0 fun k => by unfold astrolabe_Almucantar.f; rw [oif_pos (by rw [decide_eq_true_eq]; exact c1)]) ?_
    exact ev_some 0 fun k => by rw [oif_pos (by rw [decide_eq_true_eq]; exact c1)]; exact bad 3
  by_cases c2 : p > 220000000
  · refine ob_ev (a := (0, 0, 0, 0, 3)) (ev_some 0 fun k => by unfold astrolabe_Almucantar.f; rw [oif_neg (by rw [decide_eq_true_eq]; exact c1), oif_pos (by rw [decide_eq_true_eq]; exact c2)]) ?_
    exact ev_some 0 fun k => by rw [oif_neg (by rw [decide_eq_true_eq]; exact c1), oif_pos (by rw [decide_eq_true_eq]; exact c2)]; exact bad 3
  by_cases c3 : a < 0
  · refine ob_ev (a := (0, 0, 0, 0, 1)) (ev_some 0 fun k => by unfold astrolabe_Almucantar.f; rw [oif_neg (by rw [decide_eq_true_eq]; exact c1), oif_neg (by rw [decide_eq_true_eq]; exact c2), oif_pos (by rw [decide_eq_true_eq]; exact c3)]) ?_
    exact ev_some 0 fun k => by rw [oif_neg (by rw [decide_eq_true_eq]; exact c1), oif_neg (by rw [decide_eq_true_eq]; exact c2), oif_pos (by rw [decide_eq_true_eq]; exact c3)]; exact bad 1
  by_cases c4 : a > 220000000
  · refine ob_ev (a := (0, 0, 0, 0, 1)) (ev_some 0 fun k => by unfold astrolabe_Almucantar.f; rw [oif_neg (by rw [decide_eq_true_eq]; exact c1), oif_neg (by rw [decide_eq_true_eq]; exact c2), oif_neg (by rw [decide_eq_true_eq]; exact c3), oif_pos (by rw [decide_eq_true_eq]; exact c4)]) ?_
    exact ev_some 0 fun k => by rw [oif_neg (by rw [decide_eq_true_eq]; exact c1), oif_neg (by rw [decide_eq_true_eq]; exact c2), oif_neg (by rw [decide_eq_true_eq]; exact c3), oif_pos (by rw [decide_eq_true_eq]; exact c4)]; exact bad 1
  obtain ⟨L, H, M, N, e, R, R'⟩ := alm_ev (p := p) (a := a) (by omega) (by omega) (by omega) (by omega)
  refine ob_ev e ?_
  refine Ev.congr (fun k => oif_neg (by rw [decide_eq_true_eq]; exact c1)) ?_
  refine Ev.congr (fun k => oif_neg (by rw [decide_eq_true_eq]; exact c2)) ?_
  refine Ev.congr (fun k => oif_neg (by rw [decide_eq_true_eq]; exact c3)) ?_
  refine Ev.congr (fun k => oif_neg (by rw [decide_eq_true_eq]; exact c4)) ?_
  rw [iw, w64 (x := p * 1000000) (by omega) (by omega), iw, w64 (x := a * 1000000) (by omega) (by omega)]
  obtain ⟨s, c, rf, ⟨e1, e2⟩, ⟨e3, e4⟩, ⟨e5, e6⟩, e7, e8⟩ := sincos_tells (a := p * 1000000) (by omega)
  rw [show p * 1000000 % 1000000000000000 = p % 1000000000 * 1000000 by omega, ag_st (by omega)] at e1 e2 e3 e4
  obtain ⟨s', c', rf', ⟨e1', e2'⟩, ⟨e3', e4'⟩, ⟨e5', e6'⟩, e7', e8'⟩ := sincos_tells (a := a * 1000000) (by omega)
  rw [show a * 1000000 % 1000000000000000 = a % 1000000000 * 1000000 by omega, ag_st (by omega)] at e1' e2' e3' e4'
  refine ob_ev (ev_some 13 fun k => rf k) (ob_ev (ev_some 13 fun k => rf' k) ?_)
  refine Ev.congr (fun k => oif_pos rfl) ?_
  obtain ⟨g1, g2⟩ := half_at s
  obtain ⟨g1', g2'⟩ := half_at s'
  have e : IntKind.i64.wrap (IntKind.i64.wrap (s.tdiv 2) + IntKind.i64.wrap (s'.tdiv 2)) = s.tdiv 2 + s'.tdiv 2 := by
    rw [iw, iw, iw, w64 (x := s.tdiv 2) (by omega) (by omega), w64 (x := s'.tdiv 2) (by omega) (by omega), w64 (by omega) (by omega)]
  simp only
  rw [e]
  have B1 := cle (show s + s' - 2 ≤ 2 * (s.tdiv 2 + s'.tdiv 2) by omega)
  have B2 := cle (show 2 * (s.tdiv 2 + s'.tdiv 2) ≤ s + s' + 2 by omega)
  have d0 : -3300000 ≤ ((2 * (s.tdiv 2 + s'.tdiv 2) : Int) : Rat) - u * (sinT (st (p % 1000000000)) + sinT (st (a % 1000000000))) := by
    push_cast at B1 B2 ⊢
    rw [u_eq] at *
    generalize sinT (st (p % 1000000000)) = σ at *
    generalize sinT (st (a % 1000000000)) = σ' at *
    clear R R'
    grind
  have d1 : ((2 * (s.tdiv 2 + s'.tdiv 2) : Int) : Rat) - u * (sinT (st (p % 1000000000)) + sinT (st (a % 1000000000))) ≤ 3300000 := by
    push_cast at B1 B2 ⊢
    rw [u_eq] at *
    generalize sinT (st (p % 1000000000)) = σ at *
    generalize sinT (st (a % 1000000000)) = σ' at *
    clear R R'
    grind
  obtain ⟨f1, f2⟩ := R.fits (a := c) (B := s.tdiv 2 + s'.tdiv 2) (by grind) (by grind) d0 d1
  obtain ⟨f3, f4⟩ := R'.fits (a := c') (B := s.tdiv 2 + s'.tdiv 2) (by grind) (by grind) d0 d1
  have l0 := R.l0
  have l1 := R.le
  have l2 := R.h1
  have l3 := R.wide
  have m0 := R'.l0
  have m1 := R'.le
  have m2 := R'.h1
  have m3 := R'.wide
  refine ob_ev (inratio_ev (by omega) (by omega) (by omega) (by omega) (by omega) (by omega) (by omega) (by omega) f1 f2 l1 (by omega)) ?_
  refine Ev.congr (fun k => oif_pos rfl) ?_
  exact ob_ev (inratio_ev (by omega) (by omega) (by omega) (by omega) (by omega) (by omega) (by omega) (by omega) f3 f4 m1 (by omega)) (ev_some 0 fun k => rfl)
end Go.Proofs.Ytelcegpaakbppaa.Pure
