/- SunAts: At of the sun contains the coordinates of the document. -/
import Derived.Test.YtedakilpogagiaaSunAtsn20
import Derived.Test.YtedakilpogagiaaSunAtsn47
import Derived.Test.YtedakilpogagiaaSunAtsn48
import Derived.Test.YtedakilpogagiaaSunAtsn16
import Derived.Test.YtedakilpogagiaaSunAtsn17
import Derived.Test.YtedakilpogagiaaSunAtsn18
namespace Go.Proofs.Ytedakilpogagiaa.Pure
open Go Go.RowKit Go.Proofs.YtedakilpogagiaaW.PrintWords Go.Proofs.YtedakilpogagiaaW.PrintLast Go.Proofs.YtedakilpogagiaaW.PrintMore Go.Proofs.Ytedakilpogagiaa.Opn Go.Proofs.Ytedakilpogagiaa.PAll Go.Proofs.Ytedakilpogagiaa.Base Go.Proofs.Ytedakilpogagiaa.Turn Go.Proofs.Ytedakilpogagiaa.OctT Go.Proofs.Ytedakilpogagiaa.SinT Go.Proofs.Ytedakilpogagiaa.RefT Go.Proofs.Ytedakilpogagiaa.Circ Go.Proofs.Ytedakilpogagiaa.Over Go.Proofs.Ytedakilpogagiaa.Units Go.Proofs.Ytedakilpogagiaa.Args Go.Proofs.Ytedakilpogagiaa.SumsT Go.Proofs.Ytedakilpogagiaa.Vals Go.Proofs.Ytedakilpogagiaa.SkyT Go.Proofs.Ytedakilpogagiaa.Cone Go.Proofs.Ytedakilpogagiaa.Arcs Go.Proofs.Ytedakilpogagiaa.ArcT Go.Proofs.Ytedakilpogagiaa.ArcSinT Go.Proofs.Ytedakilpogagiaa.NarrowT Go.Proofs.Ytedakilpogagiaa.EqT Go.Proofs.Ytedakilpogagiaa.EqN
set_option linter.unusedVariables false
set_option linter.unusedSimpArgs false
theorem sun_works : Ev (fun k => ephemerislaw2_sunWorks.f k) true := Ev.of ephemerislaw2_sunWorks.mono (k := 120) (by decide +kernel)
theorem sun_z (t : Int) : -(398 / 1000) ≤ eZ t 0 ∧ eZ t 0 ≤ 398 / 1000 := by
 obtain ⟨⟨g1, g2⟩, ⟨g3, g4⟩⟩ := tilt_bounds
 obtain ⟨b1, b2, b3, b4⟩ := SC_bound t
 unfold eZ
 rw [S_zero, C_zero]
 generalize S t = z at *
 generalize Ce = e at *
 generalize Se = f at *
 have k := OctT.abs_mul (a := z) (b := f) (A := 1) (B := 398 / 1000) b3 b4 (by grind) g4
 constructor <;> grind
theorem cp_in {z : Int} (h0 : -1000000000 ≤ z) (h1 : z ≤ 1000000000) : cp z = z := by unfold cp mx mn; split <;> split <;> omega
theorem sun_dec {B0 B1 z0 z1 : Int} (h : Arcs2 B0 B1 (cp z0) (cp z1)) (zz : z0 ≤ z1) (w : z1 - z0 ≤ 28057) (b0 : -(1000000000 * (398 / 1000) + ((28057 : Int) : Rat) + 1) ≤ (z0 : Rat)) (b1 : (z1 : Rat) ≤ 1000000000 * (398 / 1000) + ((28057 : Int) : Rat) + 1) : B1 - B0 ≤ 5608 := by
 have i0 : -398028058 ≤ z0 := by refine int_of_rat (Rat.le_trans ?_ b0); decide +kernel
 have i1 : z1 ≤ 398028058 := by refine int_of_rat (Rat.le_trans b1 ?_); decide +kernel
 rw [cp_in (by omega) (by omega), cp_in (by omega) (by omega)] at h
 have v := verse (K := 5600) (by omega) (by omega) (q := 4 / 100000) (by decide +kernel) (by decide +kernel)
 refine arcsin_narrow (K := 5600) (c0 := 917 / 1000) (s0 := 39804 / 100000) (sk := 3518 / 100000000) (e := 4 / 1000000000) h (by omega) (by omega) zz (by omega) (by decide +kernel) (by decide +kernel) (by decide +kernel) ?_ ?_ (by decide +kernel) S_5600 (Rat.le_trans v (by decide +kernel)) ?_
 ·exact Rat.le_trans (by decide +kernel) (cle i0)
 ·exact Rat.le_trans (cle i1) (by decide +kernel)
 ·have := cle w
  push_cast at this
  clear v h b0 b1
  grind
theorem sunAt_bad {t : Int} (h : it t ≠ 0) : Ev (fun k => sun_At.f k t) (0, 0, 0, 0, it t) := by
 unfold sun_At.f
 refine ob_ev (sunLon_bad h) ?_
 exact Ev.congr (fun k => oif_pos (bne1 h)) (ev_some 0 fun k => rfl)
theorem sunAt_ev {t : Int} (h : it t = 0) : ∃ A0 A1 B0 B1 : Int, Ev (fun k => sun_At.f k t) (A0, A1, B0, B1, 0) ∧ A1 - A0 ≤ 7406 ∧ (-250000000 ≤ B0 ∧ B1 ≤ 250000000 ∧ B0 ≤ B1 ∧ B1 - B0 ≤ 5608) ∧ A0 ≤ A1 ∧ 0 ≤ A0 ∧ A0 < 1000000000 ∧
  ∀ n, -8 ≤ n → n ≤ 8 → ∃ X Y Z : Int, Ev (fun k => ephemerisref2_Body.f k 0 t n 0) (X, Y, Z) ∧ Ev (fun k => ephemerisref2_InArc.f k A0 A1 Y X) true ∧ Ev (fun k => ephemerisref2_InArcSin.f k B0 B1 Z) true := by
 obtain ⟨al, ah, w, e1, e2, a0, a1, r1, r2, z, z1, z2⟩ := sunLon_ev h
 have sz := sun_z (al * 1000000)
 obtain ⟨A0, A1, B0, B1, y0, y1, e, F, n1, hs, n2, n3, ⟨n4, n5⟩, n6, n7, n8⟩ := eq_narrow (lo := al) (hi := ah) (la := 0) (lb := 0) (sp_zero' (by omega) (by omega) (by omega)) (sp_zero' (by omega) (by omega) (by omega)) (by omega) (by omega) (by omega) (D := 56100) (wy := 28057) (wx := 28043) (K := 7400) (by omega) (by omega) (by omega) (by omega) (zm := 398 / 1000) (ρ := 916000000) (W := 39700) (κ := 4649 / 100000000) (by decide +kernel) (by rw [show (0 : Int) * 1000000 = 0 by omega]; exact sz) (by decide +kernel) (by decide +kernel) (by decide +kernel) (by decide +kernel) (by decide +kernel) S_7400 (by omega) (by omega) (by decide +kernel) (by decide +kernel)
 refine ⟨A0, A1, B0, B1, ?_, by omega, ⟨hs.a0, hs.b0, hs.le, sun_dec hs n2 n3 n4 n5⟩, n6, n7, n8, ?_⟩
 ·unfold sun_At.f
  refine ob_ev e1 ?_
  refine Ev.congr (fun k => oif_neg (bne0 rfl)) ?_
  exact ob_ev e (ev_some 0 fun k => rfl)
 ·intro n m0 m1
  have hv := e2 n m0 m1
  have q0 : 0 ≤ (w + 250 * n * 1048576) % 1048576000000000 ∧ (w + 250 * n * 1048576) % 1048576000000000 < 1048576000000000 := by omega
  obtain ⟨X, Y, Z, r, f1, f2⟩ := ref_fits (v := (w + 250 * n * 1048576) % 1048576000000000) (w := 0) (z := (w + 250 * n * 1048576) / 1048576000000000 + z) (z' := 0) F (by omega) (by omega) (by omega) (by omega) (by omega) (by omega) (by
   have := Int.emod_add_mul_ediv (w + 250 * n * 1048576) 1048576000000000
   rw [Int.add_mul]; omega) (by
   have := Int.emod_add_mul_ediv (w + 250 * n * 1048576) 1048576000000000
   rw [Int.add_mul]; omega) (by omega) (by omega)
  refine ⟨X, Y, Z, ?_, f1, f2⟩
  unfold ephemerisref2_Body.f
  refine Ev.congr (fun k => oif_pos rfl) ?_
  exact ob_ev hv (ob_ev r (ev_some 0 fun k => rfl))
theorem SunAts : PureX := by
 intro t k0 wt wk
 refine ev_k ?_
 unfold ephemerislaw2_SunAts.f
 refine ob_ev sun_works ?_
 refine Ev.congr (fun k => oif_pos rfl) ?_
 by_cases h : it t = 0
 ·obtain ⟨A0, A1, B0, B1, e, a1, b1, le, a0, a9, F⟩ := sunAt_ev h
  obtain ⟨j, hj, j0, j1⟩ := at_ok (k := k0) (n := 17) (by omega) (by omega)
  obtain ⟨X, Y, Z, r1, r2, r3⟩ := F (j - 8) (by omega) (by omega)
  refine ob_ev e (ob_ev (ev_some 0 fun k => instErr_at t) ?_)
  refine Ev.congr (fun k => oif_neg (bne0 h)) ?_
  refine ob_ev (ev_some 0 fun k => hj) ?_
  rw [EqT.iw, w64 (x := j - 8) (by omega) (by omega)]
  refine ob_ev r1 ?_
  refine Ev.congr (fun k => oif_pos rfl) ?_
  refine ob_ev r2 ?_
  refine Ev.congr (fun k => oif_pos rfl) ?_
  refine ob_ev r3 ?_
  refine Ev.congr (fun k => oif_pos rfl) ?_
  dsimp only
  have c1 := b1.1
  have c2 := b1.2.1
  have c3 := b1.2.2.1
  rw [EqT.iw, EqT.iw, w64 (x := A1 - A0) (by omega) (by omega), w64 (x := B1 - B0) (by omega) (by omega)]
  refine Ev.congr (fun k => oif_pos (by rw [decide_eq_true_eq]; omega)) ?_
  exact ev_some 0 fun k => congrArg some (decide_eq_true (by omega))
 ·refine ob_ev (sunAt_bad h) (ob_ev (ev_some 0 fun k => instErr_at t) ?_)
  refine Ev.congr (fun k => oif_pos (bne1 h)) ?_
  refine ob_ev (ev_some 0 fun k => none_at _) ?_
  exact Ev.congr (fun k => oif_pos rfl) (ev_some 0 fun k => rfl)
end Go.Proofs.Ytedakilpogagiaa.Pure
