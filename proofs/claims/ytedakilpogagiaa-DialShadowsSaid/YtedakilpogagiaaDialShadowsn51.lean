/- Ground: its boxes hold where a direction stands. -/
import Derived.Test.YtedakilpogagiaaDialShadowsn16
import Derived.Test.YtedakilpogagiaaDialShadowsn50
namespace Go.Proofs.Ytedakilpogagiaa.PlaceG
open Go Go.RowKit YtedakilpogagiaaW.PrintWords YtedakilpogagiaaW.PrintLast YtedakilpogagiaaW.PrintMore PAll Base Turn OctT SinT RefT Circ Over Units UnitT MulT Vals Cone ArcT EqT
set_option linter.unusedVariables false
set_option linter.unusedSimpArgs false
theorem half_prod {p s w : Rat} (h : Nr (p - 1000000000 * w) (1 / 1000000000)) (s0 : -1 ≤ s) (s1 : s ≤ 1) : Nr (p * (1000000000 * s) / 1000000000 - 1000000000 * (w * s)) (1 / 1000000000) := by
 have k := OctT.abs_mul h.1 h.2 s0 s1
 have e : p * (1000000000 * s) / 1000000000 - 1000000000 * (w * s) = (p - 1000000000 * w) * s := by grind
 rw [e]
 unfold Nr
 constructor <;> grind
theorem q_in {L H p q : Rat} (h : 1000000000 * L ≤ p * q) (h' : p * q ≤ 1000000000 * H) : L ≤ p * q / 1000000000 ∧ p * q / 1000000000 ≤ H := by constructor <;> grind
theorem clampE {L H : Int} {v e : Rat} (h : L ≤ H) (a : (L : Rat) ≤ v) (b : v ≤ (H : Rat)) (v0 : -1000000000 - e ≤ v) (v1 : v ≤ 1000000000 + e) (e0 : 0 ≤ e) : ∃ p : Rat, ((mx (-1000000000) (mn 1000000000 L) : Int) : Rat) ≤ p ∧ p ≤ ((mx (-1000000000) (mn 1000000000 H) : Int) : Rat) ∧ Nr (p - v) e := by
 have m : ((mx (-1000000000) (mn 1000000000 L) : Int) : Rat) ≤ v + e ∧ v ≤ ((mx (-1000000000) (mn 1000000000 H) : Int) : Rat) + e := by
  constructor
  ·rcases mx_or (-1000000000) (mn 1000000000 L) with c | c <;> rw [c]
   ·push_cast; grind
   ·have := cle (mnl (a := 1000000000) (b := L)).2
    grind
  ·rcases mn_or 1000000000 H with c | c
   ·have := cle (show (1000000000 : Int) ≤ mx (-1000000000) (mn 1000000000 H) by rw [c]; unfold mx; split <;> omega)
    push_cast at this
    grind
   ·have := cle (show H ≤ mx (-1000000000) (mn 1000000000 H) by rw [c]; exact (mxl (a := -1000000000) (b := H)).2)
    grind
 have le := cle (PlaceT.cl_mono h).1
 generalize ((mx (-1000000000) (mn 1000000000 L) : Int) : Rat) = x at *
 generalize ((mx (-1000000000) (mn 1000000000 H) : Int) : Rat) = y at *
 rcases Rat.le_total (a := x) (b := v) with n | n
 ·rcases Rat.le_total (a := v) (b := y) with k | k
  ·exact ⟨v, n, k, by unfold Nr; constructor <;> grind⟩
  ·exact ⟨y, le, Rat.le_refl, by unfold Nr; constructor <;> grind⟩
 ·exact ⟨x, Rat.le_refl, le, by unfold Nr; constructor <;> grind⟩
theorem north_size {f d h : Int} : -1 ≤ C f * S d - S f * (C d * C h) ∧ C f * S d - S f * (C d * C h) ≤ 1 := by
 have q := SC_sq d
 have b := SC_bound h
 have k : C d * C h * (C d * C h) ≤ C d * C d := by
  have m := OctT.abs_mul b.1 b.2.1 b.1 b.2.1
  have n := Turn.sq_nonneg (C d)
  have o := Rat.mul_le_mul_of_nonneg_left (show C h * C h ≤ 1 by generalize C h * C h = w at *; clear b q n; grind) n
  generalize C d = c at *
  generalize C h = e at *
  clear b q n m
  grind
 have p := (AboveT.plane (θ := f) (x := C d * C h) (y := S d) (by generalize C d * C h * (C d * C h) = w at *; generalize C d * C d = v at *; generalize S d * S d = z at *; clear b; grind)).1
 unfold cr at p
 exact p
theorem neg_nr {a b e : Rat} (h : Nr (a - 1000000000 * b) e) : Nr (-a - 1000000000 * -b) e := by unfold Nr at *; constructor <;> grind
theorem diff_nr {a v p m n e : Rat} (h : Nr (p - (a - v)) e) (g : a = 1000000000 * m) (k : Nr (v - 1000000000 * n) e) (e1 : e ≤ 4 / 1000000000) : Nr (p - 1000000000 * (m - n)) (1 / 100000000) := by
 rw [g] at h
 unfold Nr at *
 constructor <;> grind
theorem v_size {a v m n e : Rat} (g : a = 1000000000 * m) (k : Nr (v - 1000000000 * n) e) (s0 : -1 ≤ m - n) (s1 : m - n ≤ 1) : -1000000000 - e ≤ a - v ∧ a - v ≤ 1000000000 + e := by
 rw [g]
 unfold Nr at k
 constructor <;> grind
theorem pr9 {a b : Rat} (a0 : -1 ≤ a) (a1 : a ≤ 1) (b0 : -1 ≤ b) (b1 : b ≤ 1) : -1000000000 ≤ 1000000000 * (a * b) ∧ 1000000000 * (a * b) ≤ 1000000000 := by
 have k := AboveT.prod1 a0 a1 b0 b1
 constructor <;> grind
theorem near9 {q c : Rat} (h : Nr (q - 1000000000 * c) (1 / 1000000000)) (c0 : -1 ≤ c) (c1 : c ≤ 1) : -1000000001 ≤ q ∧ q ≤ 1000000001 := by unfold Nr at h; constructor <;> grind
theorem asm {v a b c : Rat} (h : Nr (v - 1000000000 * (a * b) * (1000000000 * c) / 1000000000) (2 * (1 / 1000000000) + 2 * (1 / 1000000000))) : Nr (v - 1000000000 * (b * (a * c))) (4 / 1000000000) := by
 have e : 1000000000 * (a * b) * (1000000000 * c) / 1000000000 = 1000000000 * (b * (a * c)) := by grind
 rw [e] at h
 exact nr_more h (by decide +kernel)
theorem sub_lo {a c : Int} {x y : Rat} (h : (a : Rat) ≤ x) (k : y ≤ (c : Rat)) : ((a - c : Int) : Rat) ≤ x - y := by push_cast; grind
theorem sub_hi {a c : Int} {x y : Rat} (h : x ≤ (a : Rat)) (k : (c : Rat) ≤ y) : x - y ≤ ((a - c : Int) : Rat) := by push_cast; grind
theorem neg_lo {a : Int} {x : Rat} (h : x ≤ (a : Rat)) : ((0 - a : Int) : Rat) ≤ -x := by push_cast; grind
theorem neg_hi {a : Int} {x : Rat} (h : (a : Rat) ≤ x) : -x ≤ ((0 - a : Int) : Rat) := by push_cast; grind
theorem ground_ev {lon lat r0 r1 d0 d1 t : Int} (h : PlaceT.he lon lat r0 r1 d0 d1 t = 0) : ∃ e0 e1 n0 n1 : Int, Ev (fun k => place_Ground.f k lon lat r0 r1 d0 d1 t) (e0, e1, n0, n1, 0) ∧ (-1000000000 ≤ e0 ∧ e0 ≤ e1 ∧ e1 ≤ 1000000000) ∧ (-1000000000 ≤ n0 ∧ n0 ≤ n1 ∧ n1 ≤ 1000000000) ∧
  ∀ α δ, r0 * 1000000 ≤ α → α ≤ r1 * 1000000 → d0 * 1000000 ≤ δ → δ ≤ d1 * 1000000 → ∃ η ξ : Rat, ((e0 : Rat) ≤ η ∧ η ≤ (e1 : Rat)) ∧ ((n0 : Rat) ≤ ξ ∧ ξ ≤ (n1 : Rat)) ∧ Nr (η - 1000000000 * -(C δ * S (PlaceT.rsid lon t - α))) (1 / 100000000) ∧
   Nr (ξ - 1000000000 * (C (lat * 1000000) * S δ - S (lat * 1000000) * (C δ * C (PlaceT.rsid lon t - α)))) (1 / 100000000) := by
 obtain ⟨g1, g2, g3, g4, g5, g6, g7, g8⟩ := PlaceT.hour_sp h
 obtain ⟨s1, s2⟩ := PlaceT.sid_bound lon t
 have sd := PlaceT.rsid_div lon t
 obtain ⟨l1, h1, e1, b1⟩ := sin_ev (a := lat) (by omega) (by omega)
 obtain ⟨l2, h2, e2, b2⟩ := cos_ev (a := lat) (by omega) (by omega)
 obtain ⟨dl, dh, e3, A3⟩ := over_ev (lo := d0) (hi := d1) (by omega) (by omega) (by omega)
 obtain ⟨el, eh, e4, A4⟩ := cosover_ev (lo := d0) (hi := d1) (by omega) (by omega) (by omega)
 obtain ⟨gl, gh, e5, A5⟩ := over_ev (lo := PlaceT.sid lon t - r1) (hi := PlaceT.sid lon t + 1 - r0) (by omega) (by omega) (by omega)
 obtain ⟨hl, hh, e6, A6⟩ := cosover_ev (lo := PlaceT.sid lon t - r1) (hi := PlaceT.sid lon t + 1 - r0) (by omega) (by omega) (by omega)
 obtain ⟨w1, w2, w3, w4⟩ := SC_bound (lat * 1000000)
 obtain ⟨i1, i2, i3, i4, i5, i6⟩ := box_fix (box_less b1) w3 w4
 obtain ⟨j1, j2, j3, j4, j5, j6⟩ := box_fix b2 w1 w2
 obtain ⟨o1, o2⟩ := over_lo_hi A3 (by omega)
 obtain ⟨o3, o4⟩ := cosover_lo_hi A4 (by omega)
 obtain ⟨o5, o6⟩ := over_lo_hi A5 (by omega)
 obtain ⟨o7, o8⟩ := cosover_lo_hi A6 (by omega)
 have v3 := holds_le A3 (by omega)
 have v4 := EqT.holdsC_le A4 (by omega)
 have v5 := holds_le A5 (by omega)
 have v6 := EqT.holdsC_le A6 (by omega)
 obtain ⟨E0, E1, f1, a1, a2, a3, a4, a5⟩ := unit_ev (a0 := el) (a1 := eh) (b0 := gl) (b1 := gh) ⟨A4.lo1, o3⟩ ⟨o4, A4.hi1⟩ ⟨A5.lo1, o5⟩ ⟨o6, A5.hi1⟩ v4 v5
 obtain ⟨al, ah, f2, c1, c2, c3, c4, c5⟩ := unit_ev (b0 := dl) (b1 := dh) j1 j2 ⟨A3.lo1, o1⟩ ⟨o2, A3.hi1⟩ j3 v3
 obtain ⟨bl, bh, f3, m1, m2, m3, m4, m5⟩ := unit_ev (b0 := el) (b1 := eh) i1 i2 ⟨A4.lo1, o3⟩ ⟨o4, A4.hi1⟩ i3 v4
 obtain ⟨cl, ch, f4, n1, n2, n3, n4, n5⟩ := unit_ev (b0 := hl) (b1 := hh) m1 m2 ⟨A6.lo1, o7⟩ ⟨o8, A6.hi1⟩ m3 v6
 have cb1 := PlaceT.cl_bound (al - ch)
 have cb2 := PlaceT.cl_bound (ah - cl)
 have cm := PlaceT.cl_mono (x := al - ch) (y := ah - cl) (by omega)
 unfold inU at a1 a2 c1 c2 m1 m2 n1 n2
 refine ⟨0 - E1, 0 - E0, mx (-1000000000) (mn 1000000000 (al - ch)), mx (-1000000000) (mn 1000000000 (ah - cl)), ?_, by omega, by omega, ?_⟩
 ·unfold place_Ground.f
  refine ob_ev (PlaceT.hour_ev h) ?_
  refine Ev.congr (fun k => oif_neg (bne0 rfl)) ?_
  refine ob_ev e1 (ob_ev e2 (ob_ev e3 (ob_ev e4 (ob_ev e5 (ob_ev e6 (ob_ev f1 (ob_ev f2 (ob_ev f3 (ob_ev f4 (ev_some 0 fun k => ?_))))))))))
  rw [iw, iw, w64 (x := al - ch) (by omega) (by omega), w64 (x := ah - cl) (by omega) (by omega), PlaceT.clamp_at]
  dsimp only [Sx.ob]
  rw [iw, iw, w64 (x := 0 - E1) (by omega) (by omega), w64 (x := 0 - E0) (by omega) (by omega)]
 ·intro α δ α0 α1 δ0 δ1
  obtain ⟨rb0, rb1⟩ := PlaceT.rsid_bound lon t
  generalize PlaceT.rsid lon t = θ at *
  have r0' : (PlaceT.sid lon t - r1) * 1000000 ≤ θ - α := by omega
  have r1' : θ - α ≤ (PlaceT.sid lon t + 1 - r0) * 1000000 := by omega
  obtain ⟨t1, t2⟩ := A3.tell δ δ0 δ1
  obtain ⟨t3, t4⟩ := A4.tell δ δ0 δ1
  obtain ⟨t5, t6⟩ := A5.tell _ r0' r1'
  obtain ⟨t7, t8⟩ := A6.tell _ r0' r1'
  obtain ⟨p, p1, p2, p3⟩ := clampR v4 t3 t4
  obtain ⟨q, q1, q2, q3⟩ := clampR v6 t7 t8
  obtain ⟨u1, u2⟩ := a5 p _ p1 p2 t5 t6
  obtain ⟨u3, u4⟩ := c5 _ _ j5 j6 t1 t2
  obtain ⟨u5, u6⟩ := m5 _ p i5 i6 p1 p2
  obtain ⟨x1, x2⟩ := q_in u5 u6
  obtain ⟨u7, u8⟩ := n5 _ q x1 x2 q1 q2
  obtain ⟨x3, x4⟩ := q_in u7 u8
  obtain ⟨x5, x6⟩ := q_in u1 u2
  obtain ⟨y1, y2, y3, y4⟩ := SC_bound (θ - α)
  obtain ⟨y5, y6, y7, y8⟩ := SC_bound δ
  have z1 := half_prod (s := S (θ - α)) p3 y3 y4
  have z2 := half_prod (s := S (lat * 1000000)) p3 w3 w4
  have ns := north_size (f := lat * 1000000) (d := δ) (h := θ - α)
  have e10 : 1000000000 * S (lat * 1000000) * p / 1000000000 = p * (1000000000 * S (lat * 1000000)) / 1000000000 := by rw [Rat.mul_comm p]
  rw [e10] at x1 x2 x3 x4
  have z3 := prodN z2 q3 (pr9 y5 y6 w3 w4).1 (pr9 y5 y6 w3 w4).2 (near9 q3 y1 y2).1 (near9 q3 y1 y2).2 (by decide +kernel) (by decide +kernel)
  have z4 := asm z3
  obtain ⟨g9, g10⟩ := v_size (a := 1000000000 * (C (lat * 1000000) * S δ)) rfl z4 ns.1 ns.2
  obtain ⟨ξ, k1, k2, k3⟩ := clampE (L := al - ch) (H := ah - cl) (by omega) (sub_lo (lo2 u3) x4) (sub_hi (hi2 u4) x3) g9 g10 (by decide +kernel)
  exact ⟨-(p * (1000000000 * S (θ - α)) / 1000000000), ξ, ⟨neg_lo x6, neg_hi x5⟩, ⟨k1, k2⟩, nr_more (neg_nr z1) (by decide +kernel), diff_nr k3 rfl z4 (by decide +kernel)⟩
end Go.Proofs.Ytedakilpogagiaa.PlaceG
