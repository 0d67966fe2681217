/- The lines of a dial. -/
import Derived.Test.YtedakilpogagiaaDialLinesn42
import Derived.Test.YtedakilpogagiaaDialLinesn43
namespace Go.Proofs.Ytedakilpogagiaa.DialT
open Go Go.RowKit Go.Proofs.YtedakilpogagiaaW.PrintWords Go.Proofs.YtedakilpogagiaaW.PrintLast Go.Proofs.YtedakilpogagiaaW.PrintMore Go.Proofs.Ytedakilpogagiaa.Opn Go.Proofs.Ytedakilpogagiaa.PAll Go.Proofs.Ytedakilpogagiaa.Base Go.Proofs.Ytedakilpogagiaa.Turn Go.Proofs.Ytedakilpogagiaa.Fix Go.Proofs.Ytedakilpogagiaa.OctT Go.Proofs.Ytedakilpogagiaa.SinT Go.Proofs.Ytedakilpogagiaa.RefT Go.Proofs.Ytedakilpogagiaa.Circ Go.Proofs.Ytedakilpogagiaa.Over Go.Proofs.Ytedakilpogagiaa.Units Go.Proofs.Ytedakilpogagiaa.UnitT Go.Proofs.Ytedakilpogagiaa.MulT Go.Proofs.Ytedakilpogagiaa.Cone Go.Proofs.Ytedakilpogagiaa.Arcs Go.Proofs.Ytedakilpogagiaa.ArcT Go.Proofs.Ytedakilpogagiaa.ArcSinT Go.Proofs.Ytedakilpogagiaa.NarrowT Go.Proofs.Ytedakilpogagiaa.EqT Go.Proofs.Ytedakilpogagiaa.EqN
set_option linter.unusedVariables false
set_option linter.unusedSimpArgs false
theorem box_ok {l h : Int} {w : Rat} (b : Box' l h w) (w0 : -1 ≤ w) (w1 : w ≤ 1) : ∃ a0 a1 : Int, mx (-1000000000) l = a0 ∧ mn 1000000000 h = a1 ∧ inU a0 ∧ inU a1 ∧ a0 ≤ a1 ∧ a1 - a0 ≤ 3 ∧ (a0 : Rat) ≤ 1000000000 * w ∧ 1000000000 * w ≤ (a1 : Rat) := by
 have p := lo_of b (v := w) (by grind) w0
 have q := hi_of b (v := w) (by grind) w1
 obtain ⟨b1, b2, b3⟩ := b
 have l1 : l ≤ 1000000000 := by refine int_of_rat ?_; push_cast; grind
 have h1 : -1000000000 ≤ h := by refine int_of_rat ?_; push_cast; grind
 have k1 : -1000000000 ≤ mx (-1000000000) l ∧ mx (-1000000000) l ≤ 1000000000 ∧ l ≤ mx (-1000000000) l := by unfold mx; split <;> omega
 have k2 : -1000000000 ≤ mn 1000000000 h ∧ mn 1000000000 h ≤ 1000000000 ∧ mn 1000000000 h ≤ h := by unfold mn; split <;> omega
 have k3 : mx (-1000000000) l ≤ mn 1000000000 h := by unfold mx mn; split <;> split <;> omega
 exact ⟨_, _, rfl, rfl, ⟨k1.1, k1.2.1⟩, ⟨k2.1, k2.2.1⟩, k3, by omega, p, q⟩
theorem hang {h : Int} (h0 : 6 ≤ h) (h1 : h ≤ 18) : ∃ g : Int, Int.tdiv (wrap64 ((wrap64 (h - 12)) * 1000000000)) 24 = g ∧ wrap64 g = g ∧ ((g = -250000000 ∨ g = 250000000) ∨ (-208333333 ≤ g ∧ g ≤ 208333333)) := by
 have : h = 6 ∨ h = 7 ∨ h = 8 ∨ h = 9 ∨ h = 10 ∨ h = 11 ∨ h = 12 ∨ h = 13 ∨ h = 14 ∨ h = 15 ∨ h = 16 ∨ h = 17 ∨ h = 18 := by omega
 rcases this with e | e | e | e | e | e | e | e | e | e | e | e | e <;> subst e <;> refine ⟨_, rfl, ?_, ?_⟩ <;> decide +kernel
theorem S_low : 6279 / 100000 ≤ S (10000000 * 1000000) :=
 Rat.le_trans (by decide +kernel) (S_big (10000000 * 1000000) (10000000000000 * 1099511627776) (by omega) (by omega) (by decide +kernel) (q := 62790 / 1000000 + 1 / 10000000) (by decide +kernel) (by decide +kernel))
theorem S_15 : 2588 / 10000 ≤ S (41666667 * 1000000) :=
 Rat.le_trans (by decide +kernel) (S_big (41666667 * 1000000) (41666667000000 * 1099511627776) (by omega) (by omega) (by decide +kernel) (q := 25881 / 100000) (by decide +kernel) (by decide +kernel))
theorem S_27 : 1695 / 10000000000 + 1 / 100000000000000000 ≤ S (27 * 1000000) :=
 Rat.le_trans (by decide +kernel) (S_big (27 * 1000000) (27000000 * 1099511627776) (by omega) (by omega) (by decide +kernel) (q := 1696 / 10000000000) (by decide +kernel) (by decide +kernel))
theorem C_75 : 2587 / 10000 ≤ C (208333333 * 1000000) := by
 obtain ⟨⟨a1, a2⟩, _⟩ := quarter_minus (41666667 * 1000000)
 rw [show (250000000000000 : Int) - 41666667 * 1000000 = 208333333 * 1000000 by omega] at a1 a2
 have := S_15
 generalize S (41666667 * 1000000) = s at *
 generalize C (208333333 * 1000000) = c at *
 grind
theorem C_low {g : Int} (h0 : -208333333 ≤ g) (h1 : g ≤ 208333333) : 2586 / 10000 ≤ C (g * 1000000) := by
 have c := C_75
 rcases Int.lt_or_le g 0 with n | n
 ·have d := C_dec (a := -g * 1000000) (b := 208333333 * 1000000) (by omega) (by omega) (by omega)
  have q := (SC_neg (g * 1000000)).2
  rw [show -(g * 1000000) = -g * 1000000 by omega] at q
  unfold Nr at q
  generalize C (208333333 * 1000000) = x at *
  generalize C (-g * 1000000) = y at *
  generalize C (g * 1000000) = z at *
  grind
 ·have d := C_dec (a := g * 1000000) (b := 208333333 * 1000000) (by omega) (by omega) (by omega)
  generalize C (208333333 * 1000000) = x at *
  generalize C (g * 1000000) = z at *
  grind
theorem S_six : 1 - 1 / 1000000000 ≤ S (250000000 * 1000000) ∧ S (-250000000 * 1000000) ≤ -(1 - 1 / 1000000000) := by
 have q := (quarter_at 0).1
 rw [show (0 : Int) + 250000000000000 = 250000000 * 1000000 by omega] at q
 have n := (SC_neg (250000000 * 1000000)).1
 rw [show -((250000000 : Int) * 1000000) = -250000000 * 1000000 by omega] at n
 have sq := SC_sq 0
 rw [S_zero] at sq
 have c := C_quarter (a := 0) (by omega) (by omega)
 rw [show (0 : Int) * 1000000 = 0 by omega] at c
 unfold Nr at q n
 generalize C 0 = x at *
 generalize S (250000000 * 1000000) = y at *
 generalize S (-250000000 * 1000000) = z at *
 have k : 0 ≤ (x + 1 / 1000000000000) * (1 - x) ∨ 1 < x := by
  rcases Rat.le_total (a := x) (b := 1) with m | m
  ·exact Or.inl (Rat.mul_nonneg (by grind) (by grind))
  ·by_cases e : x = 1
   ·left; rw [e]; decide +kernel
   ·right; grind
 have x1 : 1 - 1 / 100000000000 ≤ x := by
  rcases Rat.le_total (a := 1 - 1 / 100000000000) (b := x) with m | m
  ·exact m
  ·have k2 : x * x ≤ (1 - 1 / 100000000000) * x ∨ x < 0 := by
    rcases Rat.le_total (a := 0) (b := x) with o | o
    ·left; have := Rat.mul_le_mul_of_nonneg_left m o; grind
    ·by_cases e : x = 0
     ·left; rw [e]; decide +kernel
     ·right; grind
   rcases k2 with k2 | k2
   ·grind
   ·have k3 := OctT.abs_mul (a := x) (b := x) (A := 1 / 1000000000000) (B := 1 / 1000000000000) (by grind) (by grind) (by grind) (by grind)
    grind
 constructor <;> grind
theorem S_lat {a : Int} (h0 : 10000000 ≤ a) (h1 : a ≤ 220000000) : 6278 / 100000 ≤ S (a * 1000000) := by
 have m := S_mono (a := 10000000 * 1000000) (b := a * 1000000) (by omega) (by omega) (by omega)
 have := S_low
 generalize S (10000000 * 1000000) = x at *
 generalize S (a * 1000000) = y at *
 grind
theorem six_rat {s g L H : Rat} (h : 1000000000 * L ≤ 1000000000 * s * (1000000000 * g)) (h' : 1000000000 * s * (1000000000 * g) ≤ 1000000000 * H) (s0 : 6278 / 100000 ≤ s) (s1 : s ≤ 1) : (1 - 1 / 1000000000 ≤ g → 62700000 ≤ H) ∧ (g ≤ -(1 - 1 / 1000000000) → L ≤ -62700000) := by
 have e : 1000000000 * s * (1000000000 * g) = 1000000000 * (1000000000 * (s * g)) := by grind
 rw [e] at h h'
 constructor
 ·intro hg
  have k := Rat.mul_le_mul_of_nonneg_left hg (show 0 ≤ s by grind)
  generalize s * g = p at *
  grind
 ·intro hg
  have k := Rat.mul_le_mul_of_nonneg_left hg (show 0 ≤ s by grind)
  generalize s * g = p at *
  grind
theorem sq_big {z : Int} (h : 62000000 ≤ z ∨ z ≤ -62000000) : (62000000 : Rat) * 62000000 ≤ (z : Rat) * (z : Rat) := by
 rcases h with h | h
 ·have a := cle h
  push_cast at a
  have k1 := Rat.mul_le_mul_of_nonneg_left a (show (0 : Rat) ≤ 62000000 by decide +kernel)
  have k2 := Rat.mul_le_mul_of_nonneg_left a (show (0 : Rat) ≤ (z : Rat) by grind)
  generalize (z : Rat) = x at *
  grind
 ·have a := cle h
  push_cast at a
  have a' : (62000000 : Rat) ≤ -(z : Rat) := by grind
  have k1 := Rat.mul_le_mul_of_nonneg_left a' (show (0 : Rat) ≤ 62000000 by decide +kernel)
  have k2 := Rat.mul_le_mul_of_nonneg_left a' (show (0 : Rat) ≤ -(z : Rat) by grind)
  generalize (z : Rat) = x at *
  grind
theorem norm_of {L H x0 x1 : Int} (h : 62000000 ≤ L ∨ H ≤ -62000000 ∨ 62000000 ≤ x0) (p q : Int) (p0 : L ≤ p) (p1 : p ≤ H) (q0 : x0 ≤ q) (q1 : q ≤ x1) : (62000000 : Rat) * 62000000 ≤ (p : Rat) * p + (q : Rat) * q := by
 have k1 := Turn.sq_nonneg (p : Rat)
 have k2 := Turn.sq_nonneg (q : Rat)
 by_cases c : 62000000 ≤ p ∨ p ≤ -62000000
 ·have := sq_big c
  generalize (p : Rat) * p = x at *
  generalize (q : Rat) * q = y at *
  grind
 ·have := sq_big (z := q) (by omega)
  generalize (p : Rat) * p = x at *
  generalize (q : Rat) * q = y at *
  grind
theorem scaled {L H s g : Rat} (h : 1000000000 * L ≤ 1000000000 * s * (1000000000 * g)) (h' : 1000000000 * s * (1000000000 * g) ≤ 1000000000 * H) : L ≤ 1000000000 * (s * g) ∧ 1000000000 * (s * g) ≤ H := by
 have e : 1000000000 * s * (1000000000 * g) = 1000000000 * (1000000000 * (s * g)) := by grind
 rw [e] at h h'
 constructor <;> grind
theorem wid20 {x : Rat} (h : -(1 * 1600000 + 1 * 1600000 + 3) ≤ x ∧ x ≤ 1 * 1600000 + 1 * 1600000 + 3) : Nr x 20000000 := by
 unfold Nr
 constructor <;> grind
theorem wid16 {x : Rat} (h : -1600000 ≤ x) (h' : x ≤ 1600000) : Nr x 20000000 := by
 unfold Nr
 constructor <;> grind
theorem in_size3 {a : Int} {x : Rat} (h1 : -1600000 ≤ (a : Rat) - u * x) (h2 : (a : Rat) - u * x ≤ 1600000) (x0 : -1 ≤ x) (x1 : x ≤ 1) : -2305843009213693952 ≤ a ∧ a ≤ 2305843009213693952 := in_size (Rat.le_trans (by decide +kernel) h1) (Rat.le_trans h2 (by decide +kernel)) x0 x1
theorem k1of {x : Rat} (h : -(1 * 1) ≤ x) : -1 ≤ x := by grind
theorem k1of' {x : Rat} (h : x ≤ 1 * 1) : x ≤ 1 := by grind
theorem lowx {x c : Rat} (h : 2586 / 10000 ≤ c) (k : 1000000000 * c ≤ x) : ((258000000 : Int) : Rat) ≤ x := by push_cast; grind
theorem same (x : Rat) : Nr (x - x) (1 / 100000000) := by unfold Nr; constructor <;> grind
theorem line_bad {a h e : Int} (he : (if a < 10000000 ∨ a > 220000000 then 3 else if h < 6 ∨ h > 18 then 1 else 0) = e) (e0 : e ≠ 0) : Ev (fun k => dial_Line.f k a h) (0, 0, e) := by
 unfold dial_Line.f
 by_cases c : a < 10000000
 ·rw [if_pos (Or.inl c)] at he
  exact Ev.congr (fun k => oif_pos (by rw [decide_eq_true_eq]; exact c)) (ev_some 0 fun k => by rw [he])
 refine Ev.congr (fun k => oif_neg (by rw [decide_eq_true_eq]; exact c)) ?_
 by_cases c2 : a > 220000000
 ·rw [if_pos (Or.inr c2)] at he
  exact Ev.congr (fun k => oif_pos (by rw [decide_eq_true_eq]; exact c2)) (ev_some 0 fun k => by rw [he])
 refine Ev.congr (fun k => oif_neg (by rw [decide_eq_true_eq]; exact c2)) ?_
 rw [if_neg (by omega)] at he
 by_cases c3 : h < 6
 ·rw [if_pos (Or.inl c3)] at he
  exact Ev.congr (fun k => oif_pos (by rw [decide_eq_true_eq]; exact c3)) (ev_some 0 fun k => by rw [he])
 refine Ev.congr (fun k => oif_neg (by rw [decide_eq_true_eq]; exact c3)) ?_
 by_cases c4 : h > 18
 ·rw [if_pos (Or.inr c4)] at he
  exact Ev.congr (fun k => oif_pos (by rw [decide_eq_true_eq]; exact c4)) (ev_some 0 fun k => by rw [he])
 rw [if_neg (by omega)] at he
 exact absurd he.symm e0
set_option maxHeartbeats 4000000 in
theorem line_ev {a h g : Int} (a0 : 10000000 ≤ a) (a1 : a ≤ 220000000) (h0 : 6 ≤ h) (h1 : h ≤ 18) (eg : Int.tdiv (wrap64 ((wrap64 (h - 12)) * 1000000000)) 24 = g) (wg : wrap64 g = g) (cg : (g = -250000000 ∨ g = 250000000) ∨ (-208333333 ≤ g ∧ g ≤ 208333333)) :
  ∃ A B sp cp sh ch m : Int, Ev (fun k => dial_Line.f k a h) (A, B, 0) ∧ (-500000000 ≤ A ∧ A ≤ 500000000) ∧ (0 ≤ B - A ∧ B - A ≤ 50) ∧ Ev (fun k => ephemerisref2_SinCos.f k (a * 1000000)) (sp, cp) ∧ Ev (fun k => ephemerisref2_SinCos.f k (g * 1000000)) (sh, ch) ∧
   ephemerisref2_Mul.f sp sh = some m ∧ Ev (fun k => ephemerisref2_InArc.f k (A % 1000000000) (A % 1000000000 + B - A) m ch) true := by
 obtain ⟨l1, k1, e1, b1⟩ := sin_ev (a := a) (by omega) (by omega)
 obtain ⟨l2, k2, e2, b2⟩ := sin_ev (a := g) (by omega) (by omega)
 obtain ⟨l3, k3, e3, b3⟩ := cos_ev (a := g) (by omega) (by omega)
 obtain ⟨m1, m2, m3, m4⟩ := SC_bound (a * 1000000)
 obtain ⟨n1, n2, n3, n4⟩ := SC_bound (g * 1000000)
 obtain ⟨p0, p1, f1, f2, i1, i2, pp, pw, pa, pb⟩ := box_ok (box_less b1) m3 m4
 obtain ⟨q0, q1, f3, f4, i3, i4, qq, qw, qa, qb⟩ := box_ok (box_less b2) n3 n4
 obtain ⟨x0, x1, f5, f6, i5, i6, xx, xw, xa, xb⟩ := box_ok b3 n1 n2
 rw [f1, f2] at e1
 rw [f3, f4] at e2
 rw [f5, f6] at e3
 obtain ⟨L, H, eu, iL, iH, LH, Hw, tell⟩ := unit_ev i1 i2 i3 i4 pp qq
 obtain ⟨t1, t2⟩ := tell _ _ pa pb qa qb
 have big : 62000000 ≤ L ∨ H ≤ -62000000 ∨ 62000000 ≤ x0 := by
  have six := six_rat t1 t2 (S_lat a0 a1) m4
  rcases cg with c | c
  ·rcases c with c | c
   ·right; left
    have s := six.2 (by rw [c]; exact S_six.2)
    have : L ≤ -62700000 := int_of_rat (by push_cast; exact s)
    omega
   ·left
    have s := six.1 (by rw [c]; exact S_six.1)
    have : 62700000 ≤ H := int_of_rat (by push_cast; exact s)
    omega
  ·right; right
   have s := C_low c.1 c.2
   have : 258000000 ≤ x1 := int_of_rat (lowx s xb)
   omega
 have nm := norm_of (L := L) (H := H) (x0 := x0) (x1 := x1) big
 unfold inU at iL iH i5 i6
 have nz : ¬ (L ≤ 0 ∧ 0 ≤ H ∧ x0 ≤ 0 ∧ 0 ≤ x1) := by omega
 have sy : sp L H = 0 := sp_zero' (by omega) (by omega) (by omega)
 have sx : sp x0 x1 = 0 := sp_zero' (by omega) (by omega) (by omega)
 obtain ⟨c1, c2, c3, c4, lo, hi, A1, A2, A3, A4, E, g1, g2, d1, d2, d3, _, ev⟩ := arc_ev sy sx nz
 have nar := NarrowD.arc_narrow A1 A2 A3 A4 E d1 d2 d3 LH xx (by omega) (by omega) (by omega) (by omega) (W := 9) (ρ := 62000000) (κ := 1695 / 10000000000) (K := 27) (by decide +kernel) (by decide +kernel) (by
  refine Rat.le_trans (sq_add (c := 8) (d := 3) ?_ ?_ ?_ ?_) (by decide +kernel)
  ·have := cle (show -8 ≤ H - L by omega); push_cast at this ⊢; exact this
  ·exact cle (show H - L ≤ 8 by omega)
  ·have := cle (show -3 ≤ x1 - x0 by omega); push_cast at this ⊢; exact this
  ·exact cle (show x1 - x0 ≤ 3 by omega)) (by decide +kernel) nm (by decide +kernel) S_27 (by omega) (by omega) (by decide +kernel)
 rw [if_neg (by omega)] at ev
 obtain ⟨z1, z2⟩ := scaled t1 t2
 have k := OctT.abs_mul m3 m4 n3 n4
 obtain ⟨sp, cp, r1, ⟨r2, r3⟩, _, r4, r5⟩ := sincos_ev (a := a * 1000000) (by omega)
 obtain ⟨sh, ch, s1, ⟨s2, s3⟩, ⟨s4, s5⟩, s6, s7⟩ := sincos_ev (a := g * 1000000) (by omega)
 have v1 := in_size3 r2 r3 m3 m4
 have v2 := in_size3 s2 s3 n3 n4
 have er := rm_err (X := 1) (Y := 1) r2 r3 s2 s3 (by decide +kernel) (by decide +kernel) m3 m4 n3 n4
 have eY' : Nr ((rm sp sh : Rat) - u * (S (a * 1000000) * S (g * 1000000))) 20000000 := wid20 er
 have eX' : Nr ((ch : Rat) - u * C (g * 1000000)) 20000000 := wid16 s4 s5
 have fin := arc_part A1 A2 A3 A4 E (by omega) (by omega) (by omega) (by omega) (by omega) LH xx z1 z2 xa xb (same _) (same _) eY' eX' (d_size eY' (k1of k.1) (k1of' k.2)) (d_size eX' n1 n2)
 have e0 := E.la
 have e9 := E.ha
 refine ⟨if lo % 1000000000 > 500000000 then lo % 1000000000 - 1000000000 else lo % 1000000000, if lo % 1000000000 > 500000000 then hi - lo / 1000000000 * 1000000000 - 1000000000 else hi - lo / 1000000000 * 1000000000, sp, cp, sh, ch, rm sp sh, ?_, by split <;> omega, by split <;> omega, r1, s1, ref_mul_ok (by omega) (by omega) (by omega) (by omega), ?_⟩
 ·unfold dial_Line.f
  refine Ev.congr (fun k => oif_neg (by rw [decide_eq_true_eq]; omega)) ?_
  refine Ev.congr (fun k => oif_neg (by rw [decide_eq_true_eq]; omega)) ?_
  refine Ev.congr (fun k => oif_neg (by rw [decide_eq_true_eq]; omega)) ?_
  refine Ev.congr (fun k => oif_neg (by rw [decide_eq_true_eq]; omega)) ?_
  rw [EqT.iw, EqT.iw, EqT.iw, eg, wg]
  refine ob_ev e1 (ob_ev e2 (ob_ev e3 (ob_ev eu (ob_ev ev ?_))))
  refine Ev.congr (fun k => oif_neg (bne0 rfl)) ?_
  by_cases c : lo % 1000000000 > 500000000
  ·refine Ev.congr (fun k => oif_pos (by rw [decide_eq_true_eq]; exact c)) (ev_some 0 fun k => ?_)
   dsimp only
   rw [if_pos c, if_pos c, EqT.iw, EqT.iw, w64 (x := lo % 1000000000 - 1000000000) (by omega) (by omega), w64 (by omega) (by omega)]
  ·refine Ev.congr (fun k => oif_neg (by rw [decide_eq_true_eq]; exact c)) (ev_some 0 fun k => ?_)
   dsimp only
   rw [if_neg c, if_neg c]
 ·have q1 : (if lo % 1000000000 > 500000000 then lo % 1000000000 - 1000000000 else lo % 1000000000) % 1000000000 = lo % 1000000000 := by split <;> omega
  have q2 : lo % 1000000000 + (if lo % 1000000000 > 500000000 then hi - lo / 1000000000 * 1000000000 - 1000000000 else hi - lo / 1000000000 * 1000000000) - (if lo % 1000000000 > 500000000 then lo % 1000000000 - 1000000000 else lo % 1000000000) = hi - lo / 1000000000 * 1000000000 := by split <;> omega
  rw [q1, q2]
  exact fin
end Go.Proofs.Ytedakilpogagiaa.DialT
