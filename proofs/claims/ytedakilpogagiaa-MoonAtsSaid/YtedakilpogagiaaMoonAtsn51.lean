/- MoonAts: At of the moon contains the coordinates of the document. -/
import Derived.Test.YtedakilpogagiaaMoonAtsn20
import Derived.Test.YtedakilpogagiaaMoonAtsn47
import Derived.Test.YtedakilpogagiaaMoonAtsn50
namespace Go.Proofs.Ytedakilpogagiaa.Pure
open Go Go.RowKit Go.Proofs.YtedakilpogagiaaW.PrintWords Go.Proofs.YtedakilpogagiaaW.PrintLast Go.Proofs.YtedakilpogagiaaW.PrintMore Go.Proofs.Ytedakilpogagiaa.Opn Go.Proofs.Ytedakilpogagiaa.PAll Go.Proofs.Ytedakilpogagiaa.Base Go.Proofs.Ytedakilpogagiaa.Turn Go.Proofs.Ytedakilpogagiaa.OctT Go.Proofs.Ytedakilpogagiaa.SinT Go.Proofs.Ytedakilpogagiaa.RefT Go.Proofs.Ytedakilpogagiaa.Circ Go.Proofs.Ytedakilpogagiaa.Over Go.Proofs.Ytedakilpogagiaa.Units Go.Proofs.Ytedakilpogagiaa.Args Go.Proofs.Ytedakilpogagiaa.SumsT Go.Proofs.Ytedakilpogagiaa.Vals Go.Proofs.Ytedakilpogagiaa.SkyT Go.Proofs.Ytedakilpogagiaa.MoonT Go.Proofs.Ytedakilpogagiaa.AmpT Go.Proofs.Ytedakilpogagiaa.Cone Go.Proofs.Ytedakilpogagiaa.Arcs Go.Proofs.Ytedakilpogagiaa.ArcT Go.Proofs.Ytedakilpogagiaa.ArcSinT Go.Proofs.Ytedakilpogagiaa.NarrowT Go.Proofs.Ytedakilpogagiaa.EqT Go.Proofs.Ytedakilpogagiaa.EqN
set_option linter.unusedVariables false
set_option linter.unusedSimpArgs false
theorem moon_works : Ev (fun k => ephemerislaw2_moonWorks.f k) true := Ev.of ephemerislaw2_moonWorks.mono (k := 120) (by decide +kernel)
theorem moon_z {t s : Int} (h0 : -15900000000000 ≤ s) (h1 : s ≤ 15900000000000) : -(49 / 100) ≤ eZ t s ∧ eZ t s ≤ 49 / 100 := by
 obtain ⟨⟨g1, g2⟩, ⟨g3, g4⟩⟩ := tilt_bounds
 obtain ⟨b1, b2, b3, b4⟩ := SC_bound t
 obtain ⟨c1, c2, c3, c4⟩ := SC_bound s
 have sb : -(1 / 10) ≤ S s ∧ S s ≤ 1 / 10 := by
  have kb : kap * 15900000000000 ≤ 9995 / 100000 := by decide +kernel
  have m : ∀ d : Int, d ≤ 15900000000000 → kap * (d : Rat) ≤ kap * 15900000000000 := fun d hd => Rat.mul_le_mul_of_nonneg_left (by have := cle hd; push_cast at this; exact this) (by decide +kernel)
  rcases Int.lt_or_le s 0 with n | n
  ·have l := S_lip (a := s) (b := 0) (by omega)
   rw [S_zero] at l
   have k := m (0 - s) (by omega)
   unfold Nr at l
   generalize kap * ((0 - s : Int) : Rat) = v at *
   generalize kap * 15900000000000 = w at *
   generalize S s = x at *
   constructor <;> grind
  ·have l := S_lip (a := 0) (b := s) (by omega)
   rw [S_zero] at l
   have k := m (s - 0) (by omega)
   unfold Nr at l
   generalize kap * ((s - 0 : Int) : Rat) = v at *
   generalize kap * 15900000000000 = w at *
   generalize S s = x at *
   constructor <;> grind
 unfold eZ
 generalize S t = z at *
 generalize C s = x at *
 generalize S s = y at *
 generalize Ce = e at *
 generalize Se = f at *
 have k1 := OctT.abs_mul (a := x) (b := z) (A := 1) (B := 1) c1 c2 b3 b4
 have k2 := OctT.abs_mul (a := x * z) (b := f) (A := 1) (B := 398 / 1000) (by grind) (by grind) (by grind) g4
 have k3 := OctT.abs_mul (a := y) (b := e) (A := 1 / 10) (B := 918 / 1000) sb.1 sb.2 (by grind) g2
 constructor <;> grind
theorem cp_in {z : Int} (h0 : -1000000000 ≤ z) (h1 : z ≤ 1000000000) : cp z = z := by unfold cp mx mn; split <;> split <;> omega
theorem moon_dec {B0 B1 z0 z1 : Int} (h : Arcs2 B0 B1 (cp z0) (cp z1)) (zz : z0 ≤ z1) (w : z1 - z0 ≤ 840197) (b0 : -(1000000000 * (49 / 100) + ((840197 : Int) : Rat) + 1) ≤ (z0 : Rat)) (b1 : (z1 : Rat) ≤ 1000000000 * (49 / 100) + ((840197 : Int) : Rat) + 1) : B1 - B0 ≤ 165008 := by
 have i0 : -490840198 ≤ z0 := by refine int_of_rat (Rat.le_trans ?_ b0); decide +kernel
 have i1 : z1 ≤ 490840198 := by refine int_of_rat (Rat.le_trans b1 ?_); decide +kernel
 rw [cp_in (by omega) (by omega), cp_in (by omega) (by omega)] at h
 have v := verse (K := 165000) (by omega) (by omega) (q := 10368 / 10000000) (by decide +kernel) (by decide +kernel)
 refine arcsin_narrow (K := 165000) (c0 := 871 / 1000) (s0 := 4909 / 10000) (sk := 10367 / 10000000) (e := 11 / 10000000) h (by omega) (by omega) zz (by omega) (by decide +kernel) (by decide +kernel) (by decide +kernel) ?_ ?_ (by decide +kernel) S_165000 (Rat.le_trans v (by decide +kernel)) ?_
 ·exact Rat.le_trans (by decide +kernel) (cle i0)
 ·exact Rat.le_trans (cle i1) (by decide +kernel)
 ·have := cle w
  push_cast at this
  clear v h b0 b1
  grind
theorem moonAt_bad {t : Int} (h : it t ≠ 0) : Ev (fun k => moon_At.f k t) (0, 0, 0, 0, it t) := by
 unfold moon_At.f
 refine ob_ev (moonLon_bad h) ?_
 exact Ev.congr (fun k => oif_pos (bne1 h)) (ev_some 0 fun k => rfl)
theorem moonAt_ev {t : Int} (h : it t = 0) : ∃ A0 A1 B0 B1 : Int, Ev (fun k => moon_At.f k t) (A0, A1, B0, B1, 0) ∧ A1 - A0 ≤ 190006 ∧ (-250000000 ≤ B0 ∧ B1 ≤ 250000000 ∧ B0 ≤ B1 ∧ B1 - B0 ≤ 165008) ∧ A0 ≤ A1 ∧ 0 ≤ A0 ∧ A0 < 1000000000 ∧
  ∀ n m, -8 ≤ n → n ≤ 8 → -8 ≤ m → m ≤ 8 → ∃ X Y Z : Int, Ev (fun k => ephemerisref2_Body.f k 1 t n m) (X, Y, Z) ∧ Ev (fun k => ephemerisref2_InArc.f k A0 A1 Y X) true ∧ Ev (fun k => ephemerisref2_InArcSin.f k B0 B1 Z) true := by
 obtain ⟨al, ah, w, e1, e2, a0, a1, r1, r2, z, z1, z2⟩ := moonLon_ev h
 obtain ⟨vl, vh, n0, f1, f2, s1, s2, s3, s4, _, _, _, _⟩ := moonLat_ev h
 have sm := moonLat_small h (n := n0) (by have := f2 0 (by omega) (by omega); rwa [show n0 + 2500 * 0 * 1048576 = n0 by omega] at this)
 have vb : -15900000 ≤ vl ∧ vh ≤ 15900000 := by omega
 have sz := moon_z (t := al * 1000000) (s := vl * 1000000) (by omega) (by omega)
 obtain ⟨A0, A1, B0, B1, y0, y1, e, F, n1, hs, n2, n3, ⟨n4, n5⟩, n6, n7, n8⟩ := eq_narrow (lo := al) (hi := ah) (la := vl) (lb := vh) (sp_zero' (by omega) (by omega) (by omega)) (sp_zero' (by omega) (by omega) (by omega)) (by omega) (by omega) (by omega) (D := 1400400) (wy := 840197) (wx := 560141) (K := 190000) (by omega) (by omega) (by omega) (by omega) (zm := 49 / 100) (ρ := 870000000) (W := 1010000) (κ := 11938 / 10000000) (by decide +kernel) sz (by decide +kernel) (by decide +kernel) (by decide +kernel) (by decide +kernel) (by decide +kernel) S_190000 (by omega) (by omega) (by decide +kernel) (by decide +kernel)
 refine ⟨A0, A1, B0, B1, ?_, by omega, ⟨hs.a0, hs.b0, hs.le, moon_dec hs n2 n3 n4 n5⟩, n6, n7, n8, ?_⟩
 ·unfold moon_At.f
  refine ob_ev e1 ?_
  refine Ev.congr (fun k => oif_neg (bne0 rfl)) ?_
  exact ob_ev f1 (ob_ev e (ev_some 0 fun k => rfl))
 ·intro n m m0 m1 p0 p1
  have hv := e2 n m0 m1
  have hw := f2 m p0 p1
  have q0 : 0 ≤ (w + 2500 * n * 1048576) % 1048576000000000 ∧ (w + 2500 * n * 1048576) % 1048576000000000 < 1048576000000000 := by omega
  obtain ⟨X, Y, Z, r, g1, g2⟩ := ref_fits (v := (w + 2500 * n * 1048576) % 1048576000000000) (w := n0 + 2500 * m * 1048576) (z := (w + 2500 * n * 1048576) / 1048576000000000 + z) (z' := 0) F (by omega) (by omega) (by omega) (by omega) (by omega) (by omega) (by
   have := Int.emod_add_mul_ediv (w + 2500 * n * 1048576) 1048576000000000
   rw [Int.add_mul]; omega) (by
   have := Int.emod_add_mul_ediv (w + 2500 * n * 1048576) 1048576000000000
   rw [Int.add_mul]; omega) (by omega) (by omega)
  refine ⟨X, Y, Z, ?_, g1, g2⟩
  unfold ephemerisref2_Body.f
  refine Ev.congr (fun k => oif_neg (by decide)) ?_
  exact ob_ev hv (ob_ev hw (ob_ev r (ev_some 0 fun k => rfl)))
theorem MoonAts : PureX := by
 intro t k0 k1 wt wk wl
 refine ev_k ?_
 unfold ephemerislaw2_MoonAts.f
 refine ob_ev moon_works ?_
 refine Ev.congr (fun k => oif_pos rfl) ?_
 by_cases h : it t = 0
 ·obtain ⟨A0, A1, B0, B1, e, a1, b1, le, a0, a9, F⟩ := moonAt_ev h
  obtain ⟨j, hj, j0, j1⟩ := at_ok (k := k0) (n := 17) (by omega) (by omega)
  obtain ⟨i, hi, i0, i1⟩ := at_ok (k := k1) (n := 17) (by omega) (by omega)
  obtain ⟨X, Y, Z, r1, r2, r3⟩ := F (j - 8) (i - 8) (by omega) (by omega) (by omega) (by omega)
  refine ob_ev e (ob_ev (ev_some 0 fun k => instErr_at t) ?_)
  refine Ev.congr (fun k => oif_neg (bne0 h)) ?_
  refine ob_ev (ev_some 0 fun k => hj) (ob_ev (ev_some 0 fun k => hi) ?_)
  rw [EqT.iw, EqT.iw, w64 (x := j - 8) (by omega) (by omega), w64 (x := i - 8) (by omega) (by omega)]
  refine ob_ev r1 ?_
  refine Ev.congr (fun k => oif_pos rfl) ?_
  refine ob_ev r2 ?_
  refine Ev.congr (fun k => oif_pos rfl) ?_
  refine ob_ev r3 ?_
  refine Ev.congr (fun k => oif_pos rfl) ?_
  dsimp only
  have c1 := b1.1
  have c2 := b1.2.1
  have c3 := b1.2.2.1
  rw [EqT.iw, EqT.iw, w64 (x := A1 - A0) (by omega) (by omega), w64 (x := B1 - B0) (by omega) (by omega)]
  refine Ev.congr (fun k => oif_pos (by rw [decide_eq_true_eq]; omega)) ?_
  exact ev_some 0 fun k => congrArg some (decide_eq_true (by omega))
 ·refine ob_ev (moonAt_bad h) (ob_ev (ev_some 0 fun k => instErr_at t) ?_)
  refine Ev.congr (fun k => oif_pos (bne1 h)) ?_
  refine ob_ev (ev_some 0 fun k => none_at _) ?_
  exact Ev.congr (fun k => oif_pos rfl) (ev_some 0 fun k => rfl)
end Go.Proofs.Ytedakilpogagiaa.Pure
