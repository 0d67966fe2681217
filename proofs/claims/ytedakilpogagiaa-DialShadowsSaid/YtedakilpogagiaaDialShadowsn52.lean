/- The shadow of a dial. -/
import Derived.Test.YtedakilpogagiaaDialShadowsn51
namespace Go.Proofs.Ytedakilpogagiaa.ShadowT
open Go Go.RowKit YtedakilpogagiaaW.PrintWords YtedakilpogagiaaW.PrintLast YtedakilpogagiaaW.PrintMore PAll Base Turn OctT SinT RefT Circ Over Units Args Vals SkyT Cone Arcs ArcT ArcSinT NarrowT EqT EqN SkyV
set_option linter.unusedVariables false
set_option linter.unusedSimpArgs false
theorem sun_z (t : Int) : -(398 / 1000) ≤ eZ t 0 ∧ eZ t 0 ≤ 398 / 1000 := by
 obtain ⟨⟨g1, g2⟩, ⟨g3, g4⟩⟩ := tilt_bounds
 obtain ⟨b1, b2, b3, b4⟩ := SC_bound t
 unfold eZ
 rw [S_zero, C_zero]
 generalize S t = z at *
 generalize Ce = e at *
 generalize Se = f at *
 have k := OctT.abs_mul (a := z) (b := f) (A := 1) (B := 398 / 1000) b3 b4 (by grind) g4
 constructor <;> grind
theorem sunAt_bad {t : Int} (h : it t ≠ 0) : Ev (fun k => sun_At.f k t) (0, 0, 0, 0, it t) := by
 unfold sun_At.f
 refine ob_ev (sunLon_bad h) ?_
 exact Ev.congr (fun k => oif_pos (bne1 h)) (ev_some 0 fun k => rfl)
theorem sunAt_real {t : Int} (h : it t = 0) : ∃ A0 A1 B0 B1 X Y Z α δ : Int, Ev (fun k => sun_At.f k t) (A0, A1, B0, B1, 0) ∧ (-250000000 ≤ B0 ∧ B1 ≤ 250000000 ∧ B0 ≤ B1) ∧ (A0 ≤ A1 ∧ A1 - A0 ≤ 7406 ∧ 0 ≤ A0 ∧ A0 < 1000000000) ∧ Ev (fun k => ephemerisref2_Body.f k 0 t 0 0) (X, Y, Z) ∧
  A0 * 1000000 ≤ α ∧ α ≤ A1 * 1000000 ∧ B0 * 1000000 ≤ δ ∧ δ ≤ B1 * 1000000 ∧ Nr ((X : Rat) - u * (C δ * C α)) 21000000 ∧ Nr ((Y : Rat) - u * (C δ * S α)) 21000000 ∧ Nr ((Z : Rat) - u * S δ) 21000000 := by
 obtain ⟨al, ah, w, e1, e2, a0, a1, r1, r2, z, z1, z2⟩ := sunLon_ev h
 have sz := sun_z (al * 1000000)
 obtain ⟨A0, A1, B0, B1, y0, y1, e, n1, hs, n2, n3, ⟨n4, n5⟩, n6, n7, n8, real⟩ := eq_real (lo := al) (hi := ah) (la := 0) (lb := 0) (sp_zero' (by omega) (by omega) (by omega)) (sp_zero' (by omega) (by omega) (by omega)) (by omega) (by omega) (by omega) (D := 56100) (wy := 28057) (wx := 28043) (K := 7400) (by omega) (by omega) (by omega) (by omega) (zm := 398 / 1000) (ρ := 916000000) (W := 39700) (κ := 4649 / 100000000) (by decide +kernel) (by rw [show (0 : Int) * 1000000 = 0 by omega]; exact sz) (by decide +kernel) (by decide +kernel) (by decide +kernel) (by decide +kernel) (by decide +kernel) (by decide +kernel) S_7400 (by omega) (by omega) (by decide +kernel) (by decide +kernel)
 have hv := e2 0 (by omega) (by omega)
 obtain ⟨X, Y, Z, τ, σ, r, t0, t1, s0, s1, k1, k2, k3⟩ := ref_real (lo := al) (hi := ah) (la := 0) (lb := 0) (v := (w + 250 * 0 * 1048576) % 1048576000000000) (w := 0) (z := (w + 250 * 0 * 1048576) / 1048576000000000 + z) (z' := 0) (by omega) (by omega) (by omega) (by omega) (by omega) (by omega) (by
  have := Int.emod_add_mul_ediv (w + 250 * 0 * 1048576) 1048576000000000
  rw [Int.add_mul]; omega) (by
  have := Int.emod_add_mul_ediv (w + 250 * 0 * 1048576) 1048576000000000
  rw [Int.add_mul]; omega) (by omega) (by omega)
 obtain ⟨α, δ, b1, b2, b3, b4, i1, i2, i3⟩ := real τ σ t0 t1 s0 s1
 refine ⟨A0, A1, B0, B1, X, Y, Z, α, δ, ?_, ⟨hs.a0, hs.b0, hs.le⟩, ⟨n6, by omega, n7, n8⟩, ?_, b1, b2, b3, b4, near_is k1 i1, near_is k2 i2, near_is k3 i3⟩
 ·unfold sun_At.f
  refine ob_ev e1 ?_
  refine Ev.congr (fun k => oif_neg (bne0 rfl)) ?_
  exact ob_ev e (ev_some 0 fun k => rfl)
 ·unfold ephemerisref2_Body.f
  refine Ev.congr (fun k => oif_pos rfl) ?_
  exact ob_ev hv (ob_ev r (ev_some 0 fun k => rfl))
theorem half_turn (a : Int) : Nr (S (a + 500000000000000) + S a) (1 / 1000000000000000000) ∧ Nr (C (a + 500000000000000) + C a) (1 / 1000000000000000000) := by
 obtain ⟨p1, p2⟩ := quarter_at a
 obtain ⟨q1, q2⟩ := quarter_at (a + 250000000000000)
 rw [show a + 250000000000000 + 250000000000000 = a + 500000000000000 by omega] at q1 q2
 unfold Nr at *
 generalize S (a + 500000000000000) = x1 at *
 generalize C (a + 500000000000000) = x2 at *
 generalize S (a + 250000000000000) = x3 at *
 generalize C (a + 250000000000000) = x4 at *
 generalize S a = x5 at *
 generalize C a = x6 at *
 refine ⟨⟨?_, ?_⟩, ⟨?_, ?_⟩⟩ <;> grind
theorem half_rat {c s c' s' y x : Rat} (hs : Nr (s' + s) (1 / 1000000000000000000)) (hc : Nr (c' + c) (1 / 1000000000000000000)) (y0 : -1200000000000000000 ≤ y) (y1 : y ≤ 1200000000000000000) (x0 : -1200000000000000000 ≤ x) (x1 : x ≤ 1200000000000000000) : Nr (c' * -y - s' * -x - (c * y - s * x)) 10 ∧ Nr (c' * -x + s' * -y - (c * x + s * y)) 10 := by
 have a1 := OctT.abs_mul hs.1 hs.2 x0 x1
 have a2 := OctT.abs_mul hs.1 hs.2 y0 y1
 have a3 := OctT.abs_mul hc.1 hc.2 x0 x1
 have a4 := OctT.abs_mul hc.1 hc.2 y0 y1
 have e1 : c' * -y - s' * -x - (c * y - s * x) = (s' + s) * x - (c' + c) * y := by grind
 have e2 : c' * -x + s' * -y - (c * x + s * y) = -((c' + c) * x) - (s' + s) * y := by grind
 rw [e1, e2]
 generalize (s' + s) * x = p1 at *
 generalize (s' + s) * y = p2 at *
 generalize (c' + c) * x = p3 at *
 generalize (c' + c) * y = p4 at *
 clear hs hc e1 e2
 unfold Nr
 refine ⟨⟨?_, ?_⟩, ⟨?_, ?_⟩⟩ <;> grind
theorem scale_dt {t : Int} {η ξ Y X : Rat} (nY : Nr (η - 1000000000 * Y) (1 / 100000000)) (nX : Nr (ξ - 1000000000 * X) (1 / 100000000)) : Nr (dt t η ξ - 1000000000 * dt t Y X) (2 / 100000000) := by
 obtain ⟨b1, b2, b3, b4⟩ := SC_bound t
 have k1 := OctT.abs_mul b3 b4 nY.1 nY.2
 have k2 := OctT.abs_mul b1 b2 nX.1 nX.2
 unfold dt
 generalize C t = c at *
 generalize S t = s at *
 have e : c * ξ + s * η - 1000000000 * (c * X + s * Y) = c * (ξ - 1000000000 * X) + s * (η - 1000000000 * Y) := by grind
 rw [e]
 generalize s * (η - 1000000000 * Y) = p at *
 generalize c * (ξ - 1000000000 * X) = q at *
 clear e nY nX
 unfold Nr
 constructor <;> grind
theorem scale_u {t : Int} {y x Y X : Rat} (nY : Nr (y - u * Y) 110000000) (nX : Nr (x - u * X) 110000000) : Nr (cr t y x - u * cr t Y X) 220000000 ∧ Nr (dt t y x - u * dt t Y X) 220000000 := by
 obtain ⟨b1, b2, b3, b4⟩ := SC_bound t
 have k1 := OctT.abs_mul b1 b2 nY.1 nY.2
 have k2 := OctT.abs_mul b3 b4 nX.1 nX.2
 have k3 := OctT.abs_mul b3 b4 nY.1 nY.2
 have k4 := OctT.abs_mul b1 b2 nX.1 nX.2
 unfold cr dt
 generalize C t = c at *
 generalize S t = s at *
 have e : c * y - s * x - u * (c * Y - s * X) = c * (y - u * Y) - s * (x - u * X) := by grind
 have e2 : c * x + s * y - u * (c * X + s * Y) = c * (x - u * X) + s * (y - u * Y) := by grind
 rw [e, e2]
 generalize c * (y - u * Y) = p at *
 generalize s * (x - u * X) = q at *
 generalize s * (y - u * Y) = p' at *
 generalize c * (x - u * X) = q' at *
 clear e e2 nY nX
 unfold Nr
 refine ⟨⟨?_, ?_⟩, ⟨?_, ?_⟩⟩ <;> grind
theorem fin_lo {a b c d : Rat} (h : -(1 / 10000000000 * 1000000000) ≤ a) (k : Nr (a - 1000000000 * b) (2 / 100000000)) (l : Nr (c - u * b) 220000000) (m : Nr (d - c) 10) : -2100000000 ≤ d := by
 rw [u_eq] at l
 unfold Nr at *
 grind
theorem fin_hi {a b c d : Rat} (h : a ≤ 1 / 10000000000 * 1000000000) (k : Nr (a - 1000000000 * b) (2 / 100000000)) (l : Nr (c - u * b) 220000000) (m : Nr (d - c) 10) : d ≤ 2100000000 := by
 rw [u_eq] at l
 unfold Nr at *
 grind
theorem fin_dt {a b c d a' b' c' d' : Rat} (h : -(1 / 1000000000 * 1000000000) ≤ a + a') (k : Nr (a - 1000000000 * b) (2 / 100000000)) (l : Nr (c - u * b) 220000000) (m : Nr (d - c) 10) (k' : Nr (a' - 1000000000 * b') (2 / 100000000)) (l' : Nr (c' - u * b') 220000000) (m' : Nr (d' - c') 10) : -2100000000 ≤ d + d' := by
 rw [u_eq] at l l'
 unfold Nr at *
 grind
theorem shadow_part {a b c d lo hi y0 y1 x0 x1 dY dX : Int} {η ξ Y X : Rat} (Aa : At a y0 x0) (Ab : At b y0 x1) (Ac : At c y1 x0) (Ad : At d y1 x1) (E : Go.Proofs.Ytedakilpogagiaa.ArcT.Ends a b c d lo hi) (hw : hi - lo ≤ 400000000) (m1 : -1000000000 ≤ y0) (m2 : y1 ≤ 1000000000) (m3 : -1000000000 ≤ x0) (m4 : x1 ≤ 1000000000) (hy : y0 ≤ y1) (hx : x0 ≤ x1)
  (h0 : (y0 : Rat) ≤ η) (h1 : η ≤ (y1 : Rat)) (g0 : (x0 : Rat) ≤ ξ) (g1 : ξ ≤ (x1 : Rat)) (nY : Nr (η - 1000000000 * Y) (1 / 100000000)) (nX : Nr (ξ - 1000000000 * X) (1 / 100000000)) (eY' : Nr ((dY : Rat) - u * Y) 110000000) (eX' : Nr ((dX : Rat) - u * X) 110000000)
  (yb : -1200000000000000000 ≤ dY ∧ dY ≤ 1200000000000000000) (xb : -1200000000000000000 ≤ dX ∧ dX ≤ 1200000000000000000) {A B : Int} (hA : A = (lo + 500000000) % 1000000000) (hB : B = A + (hi - lo)) : Ev (fun k => ephemerisref2_InArc.f k A B (0 - dY) (0 - dX)) true := by
 have cst : ∀ z : Int, -1000000000 ≤ z → z ≤ 1000000000 → (-1000000000 : Rat) ≤ (z : Rat) ∧ (z : Rat) ≤ 1000000000 := by
  intro z z0 z1
  have e1 := cle z0
  have e2 := cle z1
  push_cast at e1 e2
  exact ⟨e1, e2⟩
 have q1 := cst y0 (by omega) (by omega)
 have q2 := cst y1 (by omega) (by omega)
 have q3 := cst x0 (by omega) (by omega)
 have q4 := cst x1 (by omega) (by omega)
 obtain ⟨b1, b2, b3⟩ := Box.box_in Aa Ab Ac Ad E (by omega) (M := 1000000000) q1.1 q1.2 q2.1 q2.2 q3.1 q3.2 q4.1 q4.2 h0 h1 g0 g1
 obtain ⟨w1, w2⟩ := scale_u (t := lo * 1000000) eY' eX'
 obtain ⟨w3, w4⟩ := scale_u (t := hi * 1000000) eY' eX'
 have v1 := scale_cr (t := lo * 1000000) nY nX
 have v2 := scale_dt (t := lo * 1000000) nY nX
 have v3 := scale_cr (t := hi * 1000000) nY nX
 have v4 := scale_dt (t := hi * 1000000) nY nX
 have y5 := cle yb.1
 have y6 := cle yb.2
 have x5 := cle xb.1
 have x6 := cle xb.2
 push_cast at y5 y6 x5 x6
 have t1 := half_turn (lo * 1000000)
 have t2 := half_turn (hi * 1000000)
 obtain ⟨k1, k2⟩ := half_rat t1.1 t1.2 y5 y6 x5 x6
 obtain ⟨k3, k4⟩ := half_rat t2.1 t2.2 y5 y6 x5 x6
 have la := E.la
 have ha := E.ha
 have pA : A * 1000000 % 1000000000000000 = (lo * 1000000 + 500000000000000) % 1000000000000000 := by omega
 have pB : B * 1000000 % 1000000000000000 = (hi * 1000000 + 500000000000000) % 1000000000000000 := by omega
 have n1 : ((0 - dY : Int) : Rat) = -(dY : Rat) := by push_cast; grind
 have n2 : ((0 - dX : Int) : Rat) = -(dX : Rat) := by push_cast; grind
 refine Go.Proofs.Ytedakilpogagiaa.InArcT.inarc_ev (by omega) (by omega) (by omega) (by omega) (by omega) (by omega) (by omega) (by omega) ?_ ?_ ?_
 ·rw [cr_per pA, n1, n2]
  exact fin_lo b1 v1 w1 k1
 ·rw [cr_per pB, n1, n2]
  exact fin_hi b2 v3 w3 k3
 ·rw [dt_per pA, dt_per pB, n1, n2]
  exact fin_dt b3 v2 w2 k2 v4 w4 k4
end Go.Proofs.Ytedakilpogagiaa.ShadowT
