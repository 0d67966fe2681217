/- Above of the reference: where a direction stands at a place. -/
import Derived.Test.YtedakilpogagiaaDialShadowsn47
import Derived.Test.YtedakilpogagiaaDialShadowsn49
namespace Go.Proofs.Ytedakilpogagiaa.AboveT
open Go Go.RowKit YtedakilpogagiaaW.PrintWords YtedakilpogagiaaW.PrintLast YtedakilpogagiaaW.PrintMore PAll Base Turn Fix OctT SinT RefT Circ Over Units Args Vals Cone Arcs ArcT ArcSinT NarrowT EqT EqN SkyV
set_option linter.unusedVariables false
set_option linter.unusedSimpArgs false
theorem rm_err2 {a b : Int} {x y A B X Y : Rat} (ha1 : -A ≤ (a : Rat) - u * x) (ha2 : (a : Rat) - u * x ≤ A) (hb1 : -B ≤ (b : Rat) - u * y) (hb2 : (b : Rat) - u * y ≤ B) (hA : A ≤ 100000000) (hB : B ≤ 100000000)
  (hx0 : -X ≤ x) (hx1 : x ≤ X) (hy0 : -Y ≤ y) (hy1 : y ≤ Y) : Nr ((rm a b : Rat) - u * (x * y)) (X * B + Y * A + 3) := by
 obtain ⟨f1, f2⟩ := rm_tells a b
 have f1 := clt f1
 have f2 := clt f2
 push_cast at f1 f2
 generalize (rm a b : Rat) = m at *
 generalize (a : Rat) = a' at *
 generalize (b : Rat) = b' at *
 obtain ⟨a1, a2⟩ := OctT.abs_mul (a := a' - u * x) (b := b' - u * y) (A := A) (B := B) ha1 ha2 hb1 hb2
 obtain ⟨b1, b2⟩ := OctT.abs_mul (a := a' - u * x) (b := y) (A := A) (B := Y) ha1 ha2 hy0 hy1
 obtain ⟨c1, c2⟩ := OctT.abs_mul (a := x) (b := b' - u * y) (A := X) (B := B) hx0 hx1 hb1 hb2
 have hAB : A * B ≤ 10000000000000000 := by
  have hB0 : 0 ≤ B := by grind
  have hA0 : 0 ≤ A := by grind
  have := Rat.mul_le_mul_of_nonneg_left hB hA0
  grind
 have e : a' * b' = u * (u * (x * y) + x * (b' - u * y) + (a' - u * x) * y) + (a' - u * x) * (b' - u * y) := by grind
 have hu := u_eq
 rw [e, ← hu] at f1 f2
 generalize x * y = w at *
 generalize x * (b' - u * y) = p at *
 generalize (a' - u * x) * y = q at *
 generalize (a' - u * x) * (b' - u * y) = r at *
 clear e ha1 ha2 hb1 hb2
 constructor
 ·have k : u * (u * w + p + q - m - 2) ≤ 10000000000000000 := by grind
  have := div_bound (d := 10000000000000000) (D := u) (z := u * w + p + q - m - 2) (b := 10000000000000000) (by rw [hu]; grind) (by grind) (by grind) k
  grind
 ·have k : u * (m - u * w - p - q - 2) ≤ 10000000000000000 := by grind
  have := div_bound (d := 10000000000000000) (D := u) (z := m - u * w - p - q - 2) (b := 10000000000000000) (by rw [hu]; grind) (by grind) (by grind) k
  grind
theorem size_of {a : Int} {x : Rat} (h : Nr ((a : Rat) - u * x) 100000000) (x0 : -1 ≤ x) (x1 : x ≤ 1) : -1200000000000000000 ≤ a ∧ a ≤ 1200000000000000000 := by
 rw [u_eq] at h
 unfold Nr at h
 constructor
 ·refine int_of_rat ?_
  push_cast
  grind
 ·refine int_of_rat ?_
  push_cast
  grind
theorem sum_nr {a b : Int} {x y A B e : Rat} (h : Nr ((a : Rat) - u * x) A) (k : Nr ((b : Rat) - u * y) B) (he : A + B ≤ e) : Nr (((a + b : Int) : Rat) - u * (x + y)) e := by
 push_cast
 unfold Nr at *
 constructor <;> grind
theorem dif_nr {a b : Int} {x y A B e : Rat} (h : Nr ((a : Rat) - u * x) A) (k : Nr ((b : Rat) - u * y) B) (he : A + B ≤ e) : Nr (((a - b : Int) : Rat) - u * (x - y)) e := by
 push_cast
 unfold Nr at *
 constructor <;> grind
theorem nr_le {x e e' : Rat} (h : Nr x e) (he : e ≤ e') : Nr x e' := nr_more h he
theorem prod1 {x y : Rat} (x0 : -1 ≤ x) (x1 : x ≤ 1) (y0 : -1 ≤ y) (y1 : y ≤ 1) : -1 ≤ x * y ∧ x * y ≤ 1 := by
 have k := OctT.abs_mul x0 x1 y0 y1
 constructor <;> grind
theorem plane {θ : Int} {x y : Rat} (h : x * x + y * y ≤ 1) : (-1 ≤ cr θ y x ∧ cr θ y x ≤ 1) ∧ (-1 ≤ dt θ y x ∧ dt θ y x ≤ 1) := by
 have l := len_at θ y x
 generalize cr θ y x = c at *
 generalize dt θ y x = d at *
 have k1 := Turn.sq_nonneg c
 have k2 := Turn.sq_nonneg d
 have f : ∀ w : Rat, w * w ≤ 1 → -1 ≤ w ∧ w ≤ 1 := fun w hw => ⟨(le_of_sq (r := 1) (by decide +kernel) (by grind)).2, (le_of_sq (r := 1) (by decide +kernel) (by grind)).1⟩
 exact ⟨f c (by grind), f d (by grind)⟩
theorem above_ev {lon lat t X Y Z : Int} {x y z : Rat} (h : PlaceT.pe lon lat = 0) (ht : it t = 0) (hx : Nr ((X : Rat) - u * x) 21000000) (hy : Nr ((Y : Rat) - u * y) 21000000) (hz : Nr ((Z : Rat) - u * z) 21000000) (hxy : x * x + y * y ≤ 1) (x0 : -1 ≤ x) (x1 : x ≤ 1) (y0 : -1 ≤ y) (y1 : y ≤ 1) (z0 : -1 ≤ z) (z1 : z ≤ 1) :
  ∃ up east north : Int, Ev (fun k => ephemerisref2_Above.f k lon lat X Y Z t) (up, east, north) ∧ Nr ((up : Rat) - u * (S (lat * 1000000) * z + C (lat * 1000000) * dt (PlaceT.rsid lon t) y x)) 100000000 ∧ Nr ((east : Rat) - u * cr (PlaceT.rsid lon t) y x) 100000000 ∧
   Nr ((north : Rat) - u * (C (lat * 1000000) * z - S (lat * 1000000) * dt (PlaceT.rsid lon t) y x)) 100000000 := by
 obtain ⟨p1, p2, p3, p4⟩ := PlaceT.pe_zero h
 have es := PlaceT.rsidereal_ev (lat := lat) h ht
 obtain ⟨rb0, rb1⟩ := PlaceT.rsid_bound lon t
 generalize PlaceT.rsid lon t = θ at *
 obtain ⟨st, ct, a1, ⟨a2, a3⟩, ⟨a4, a5⟩, a6, a7⟩ := sincos_ev (a := θ) (by omega)
 obtain ⟨sp, cp, b1, ⟨b2, b3⟩, ⟨b4, b5⟩, b6, b7⟩ := sincos_ev (a := lat * 1000000) (by omega)
 obtain ⟨m1, m2, m3, m4⟩ := SC_bound θ
 obtain ⟨n1, n2, n3, n4⟩ := SC_bound (lat * 1000000)
 obtain ⟨⟨c1, c2⟩, ⟨d1, d2⟩⟩ := plane (θ := θ) hxy
 have r4 := nr_le (rm_err2 (X := 1) (Y := 1) a4 a5 hx.1 hx.2 (by decide +kernel) (by decide +kernel) m1 m2 x0 x1) (e' := 23000000) (by decide +kernel)
 have r5 := nr_le (rm_err2 (X := 1) (Y := 1) a2 a3 hy.1 hy.2 (by decide +kernel) (by decide +kernel) m3 m4 y0 y1) (e' := 23000000) (by decide +kernel)
 have r6 := nr_le (rm_err2 (X := 1) (Y := 1) a4 a5 hy.1 hy.2 (by decide +kernel) (by decide +kernel) m1 m2 y0 y1) (e' := 23000000) (by decide +kernel)
 have r7 := nr_le (rm_err2 (X := 1) (Y := 1) a2 a3 hx.1 hx.2 (by decide +kernel) (by decide +kernel) m3 m4 x0 x1) (e' := 23000000) (by decide +kernel)
 have r8 := nr_le (rm_err2 (X := 1) (Y := 1) b2 b3 hz.1 hz.2 (by decide +kernel) (by decide +kernel) n3 n4 z0 z1) (e' := 23000000) (by decide +kernel)
 have r10 := nr_le (rm_err2 (X := 1) (Y := 1) b4 b5 hz.1 hz.2 (by decide +kernel) (by decide +kernel) n1 n2 z0 z1) (e' := 23000000) (by decide +kernel)
 have ro : Nr (((rm ct X + rm st Y : Int) : Rat) - u * dt θ y x) 46000000 := sum_nr r4 r5 (by decide +kernel)
 have re : Nr (((rm ct Y - rm st X : Int) : Rat) - u * cr θ y x) 46000000 := dif_nr r6 r7 (by decide +kernel)
 have s4 := size_of (nr_le r4 (by decide +kernel)) (prod1 m1 m2 x0 x1).1 (prod1 m1 m2 x0 x1).2
 have s5 := size_of (nr_le r5 (by decide +kernel)) (prod1 m3 m4 y0 y1).1 (prod1 m3 m4 y0 y1).2
 have s6 := size_of (nr_le r6 (by decide +kernel)) (prod1 m1 m2 y0 y1).1 (prod1 m1 m2 y0 y1).2
 have s7 := size_of (nr_le r7 (by decide +kernel)) (prod1 m3 m4 x0 x1).1 (prod1 m3 m4 x0 x1).2
 have so := size_of (nr_le ro (by decide +kernel)) d1 d2
 have sx := size_of (nr_le hx (by decide +kernel)) x0 x1
 have sy := size_of (nr_le hy (by decide +kernel)) y0 y1
 have sz := size_of (nr_le hz (by decide +kernel)) z0 z1
 have v1 := in_size (a := st) (x := S θ) (Rat.le_trans (by decide +kernel) a2) (Rat.le_trans a3 (by decide +kernel)) m3 m4
 have v2 := in_size (a := ct) (x := C θ) (Rat.le_trans (by decide +kernel) a4) (Rat.le_trans a5 (by decide +kernel)) m1 m2
 have v3 := in_size (a := sp) (x := S (lat * 1000000)) (Rat.le_trans (by decide +kernel) b2) (Rat.le_trans b3 (by decide +kernel)) n3 n4
 have v4 := in_size (a := cp) (x := C (lat * 1000000)) (Rat.le_trans (by decide +kernel) b4) (Rat.le_trans b5 (by decide +kernel)) n1 n2
 have r9 := nr_le (rm_err2 (X := 1) (Y := 1) b4 b5 ro.1 ro.2 (by decide +kernel) (by decide +kernel) n1 n2 d1 d2) (e' := 48000000) (by decide +kernel)
 have r11 := nr_le (rm_err2 (X := 1) (Y := 1) b2 b3 ro.1 ro.2 (by decide +kernel) (by decide +kernel) n3 n4 d1 d2) (e' := 48000000) (by decide +kernel)
 have s8 := size_of (nr_le r8 (by decide +kernel)) (prod1 n3 n4 z0 z1).1 (prod1 n3 n4 z0 z1).2
 have s9 := size_of (nr_le r9 (by decide +kernel)) (prod1 n1 n2 d1 d2).1 (prod1 n1 n2 d1 d2).2
 have s10 := size_of (nr_le r10 (by decide +kernel)) (prod1 n1 n2 z0 z1).1 (prod1 n1 n2 z0 z1).2
 have s11 := size_of (nr_le r11 (by decide +kernel)) (prod1 n3 n4 d1 d2).1 (prod1 n3 n4 d1 d2).2
 refine ⟨rm sp Z + rm cp (rm ct X + rm st Y), rm ct Y - rm st X, rm cp Z - rm sp (rm ct X + rm st Y), ?_, sum_nr r8 r9 (by decide +kernel), nr_le re (by decide +kernel), dif_nr r10 r11 (by decide +kernel)⟩
 unfold ephemerisref2_Above.f
 refine ob_ev es (ob_ev a1 ?_)
 rw [iw, w64 (x := lat * 1000000) (by omega) (by omega)]
 refine ob_ev b1 ?_
 dsimp only
 refine ob_ev (ev_some 0 fun k => ref_mul_ok (by omega) (by omega) (by omega) (by omega)) (ob_ev (ev_some 0 fun k => ref_mul_ok (by omega) (by omega) (by omega) (by omega)) (ob_ev (ev_some 0 fun k => ref_mul_ok (by omega) (by omega) (by omega) (by omega)) (ob_ev (ev_some 0 fun k => ref_mul_ok (by omega) (by omega) (by omega) (by omega)) (ob_ev (ev_some 0 fun k => ref_mul_ok (by omega) (by omega) (by omega) (by omega)) ?_))))
 rw [iw, w64 (x := rm ct X + rm st Y) (by omega) (by omega)]
 refine ob_ev (ev_some 0 fun k => ref_mul_ok (by omega) (by omega) (by omega) (by omega)) (ob_ev (ev_some 0 fun k => ref_mul_ok (by omega) (by omega) (by omega) (by omega)) (ob_ev (ev_some 0 fun k => ref_mul_ok (by omega) (by omega) (by omega) (by omega)) (ev_some 0 fun k => ?_)))
 rw [iw, iw, iw, w64 (x := rm sp Z + rm cp (rm ct X + rm st Y)) (by omega) (by omega), w64 (x := rm ct Y - rm st X) (by omega) (by omega), w64 (x := rm cp Z - rm sp (rm ct X + rm st Y)) (by omega) (by omega)]
end Go.Proofs.Ytedakilpogagiaa.AboveT
