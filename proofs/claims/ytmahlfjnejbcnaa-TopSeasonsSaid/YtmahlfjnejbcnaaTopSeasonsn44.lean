/- Arc: its interval holds the angles of the corners; cones of angles. -/
import Derived.Test.YtmahlfjnejbcnaaTopSeasonsn43
namespace Go.Proofs.Ytmahlfjnejbcnaa.ArcT
open Go.RowKit YtmahlfjnejbcnaaW.PrintWords YtmahlfjnejbcnaaW.PrintLast YtmahlfjnejbcnaaW.PrintMore Opn PAll Base Turn Fix Oct OctT SinT RefT Circ Over Units Acute Cone Arcs
set_option linter.unusedVariables false
set_option linter.unusedSimpArgs false
def At (l : Int) (y x : Int) : Prop := ∃ M : Int, Btw l (l + 3) (y : Rat) (x : Rat) (190 / 100000000000 * (M : Rat)) ∧ -M ≤ y ∧ y ≤ M ∧ -M ≤ x ∧ x ≤ M ∧ 0 < M ∧ (M = y ∨ M = -y ∨ M = x ∨ M = -x)
theorem btw_shift {l : Int} {y x m : Rat} (b : Btw l (l + 3) y x m) (k : Int) : Btw (l - k * 1000000000) (l - k * 1000000000 + 3) y x m := by
 obtain ⟨b1, b2, b3⟩ := b
 refine ⟨rfl, ?_, ?_⟩
 ·rwa [cr_per (a := (l - k * 1000000000) * 1000000) (b := l * 1000000) (by omega)]
 ·rwa [cr_per (a := (l - k * 1000000000 + 3) * 1000000) (b := (l + 3) * 1000000) (by omega)]
theorem at_shift {l : Int} {y x : Int} (h : At l y x) (k : Int) : At (l - k * 1000000000) y x := by
 obtain ⟨M, b, r⟩ := h
 exact ⟨M, btw_shift b k, r⟩
theorem dir_ev {y x : Int} (y1 : -1000000000000000000 ≤ y) (y2 : y ≤ 1000000000000000000) (x1 : -1000000000000000000 ≤ x) (x2 : x ≤ 1000000000000000000) (hz : y ≠ 0 ∨ x ≠ 0) : ∃ l, Ev (fun k => trig_direction.f k y x) (l, l + 3) ∧ At l y x ∧ -500000002 ≤ l ∧ l ≤ 499999999 ∧ (0 ≤ x → -250000002 ≤ l ∧ l ≤ 249999999) := by
 obtain ⟨l, h, M, e, b, m1, m2, m3, m4, m5, m6, l1, h1, hp⟩ := direction_tells y1 y2 x1 x2 hz
 obtain rfl : h = l + 3 := b.1
 exact ⟨l, e, ⟨M, b, m1, m2, m3, m4, m5, m6⟩, l1, by omega, fun hx => by have := hp hx; omega⟩
theorem arc_step {p q f0 i i' X4 Y5 X6 Y7 X8 Y9 l f1 : Int} (hi0 : 0 ≤ i) (hi3 : i < 3) (ei : i + 1 = i') (ep : rd [Y9, Y7, Y5] i = p) (eq : rd [X8, X6, X4] i = q) (e : Ev (fun k => trig_direction.f k p q) (l, l + 3)) (l1 : -500000002 ≤ l) (l2 : l ≤ 499999999) (f1' : -500000002 ≤ f0) (f2' : f0 ≤ 499999999) :
  ∃ k : Int, f0 - 500000000 ≤ l - k * 1000000000 ∧ l - k * 1000000000 < f0 + 500000000 ∧ ∀ (lo hi : Int) (r : Int × Int × Int), (Ev (fun k2 => trig_Arc.l0 k2 i' X4 Y5 X6 Y7 X8 Y9 f0 f1 (mn lo (l - k * 1000000000)) (mx hi (l - k * 1000000000 + 3))) r → Ev (fun k2 => trig_Arc.l0 k2 i X4 Y5 X6 Y7 X8 Y9 f0 f1 lo hi) r) := by
 refine ⟨(l - f0 + 500000000) / 1000000000, by omega, by omega, fun lo hi r hr => ?_⟩
 refine ev_step 1 (fun k => by rw [trig_Arc.l0, if_pos hi3, if_pos hi0, ep, eq]) ?_
 refine ev_bind e ?_
 refine Ev.congr (fun k => ?_) hr
 simp only
 rw [w64 (x := l - f0) (by omega) (by omega), w64 (x := l - f0 + 500000000) (by omega) (by omega), floor_pos (by omega) (by omega), Option.bind_some, w64 (x := i + 1) (by omega) (by omega), ei, w64 (x := (l - f0 + 500000000) / 1000000000 * 1000000000) (by omega) (by omega), w64 (x := l - (l - f0 + 500000000) / 1000000000 * 1000000000) (by omega) (by omega), w64 (x := l + 3 - (l - f0 + 500000000) / 1000000000 * 1000000000) (by omega) (by omega), show l + 3 - (l - f0 + 500000000) / 1000000000 * 1000000000 = l - (l - f0 + 500000000) / 1000000000 * 1000000000 + 3 by omega]
structure Ends (a b c d lo hi : Int) : Prop where
 la : lo ≤ a
 lb : lo ≤ b
 lc : lo ≤ c
 ld : lo ≤ d
 ha : a + 3 ≤ hi
 hb : b + 3 ≤ hi
 hc : c + 3 ≤ hi
 hd : d + 3 ≤ hi
 lone : lo = a ∨ lo = b ∨ lo = c ∨ lo = d
 hone : hi = a + 3 ∨ hi = b + 3 ∨ hi = c + 3 ∨ hi = d + 3
theorem ends_of (a b c d : Int) : Ends a b c d (mn (mn (mn a b) c) d) (mx (mx (mx (a + 3) (b + 3)) (c + 3)) (d + 3)) := by
 have m1 := mnl (a := a) (b := b)
 have m2 := mnl (a := mn a b) (b := c)
 have m3 := mnl (a := mn (mn a b) c) (b := d)
 have x1 := mxl (a := a + 3) (b := b + 3)
 have x2 := mxl (a := mx (a + 3) (b + 3)) (b := c + 3)
 have x3 := mxl (a := mx (mx (a + 3) (b + 3)) (c + 3)) (b := d + 3)
 refine ⟨by omega, by omega, by omega, by omega, by omega, by omega, by omega, by omega, ?_, ?_⟩
 ·have n1 := mn_or a b
  have n2 := mn_or (mn a b) c
  have n3 := mn_or (mn (mn a b) c) d
  omega
 ·have n1 := mx_or (a + 3) (b + 3)
  have n2 := mx_or (mx (a + 3) (b + 3)) (c + 3)
  have n3 := mx_or (mx (mx (a + 3) (b + 3)) (c + 3)) (d + 3)
  omega
theorem arc_ev {y0 y1 x0 x1 : Int} (hy : sp y0 y1 = 0) (hx : sp x0 x1 = 0) (nz : ¬ (y0 ≤ 0 ∧ 0 ≤ y1 ∧ x0 ≤ 0 ∧ 0 ≤ x1)) : ∃ a b c d lo hi : Int, At a y0 x0 ∧ At b y0 x1 ∧ At c y1 x0 ∧ At d y1 x1 ∧ Ends a b c d lo hi ∧ -500000002 ≤ a ∧ a ≤ 499999999 ∧
  (a - 500000000 ≤ b ∧ b < a + 500000000) ∧ (a - 500000000 ≤ c ∧ c < a + 500000000) ∧ (a - 500000000 ≤ d ∧ d < a + 500000000) ∧ (y0 = y1 → x0 = x1 → b = a ∧ c = a ∧ d = a) ∧
  Ev (fun k => trig_Arc.f k y0 y1 x0 x1) (if hi - lo > 400000000 then (0, 0, 11) else (lo % 1000000000, hi - lo / 1000000000 * 1000000000, 0)) := by
 have cy := interval_Check_ev y0 y1
 have cx := interval_Check_ev x0 x1
 rw [hy] at cy
 rw [hx] at cx
 obtain ⟨a0, a1, a2⟩ := sp_zero hy
 obtain ⟨b0, b1, b2⟩ := sp_zero hx
 obtain ⟨la, ea, Aa, la1, la2, _⟩ := dir_ev (y := y0) (x := x0) (by omega) (by omega) (by omega) (by omega) (by omega)
 have same : ∀ p q : Int, -1000000000000000000 ≤ p → p ≤ 1000000000000000000 → -1000000000000000000 ≤ q → q ≤ 1000000000000000000 → (p ≠ 0 ∨ q ≠ 0) → ∃ l, Ev (fun k => trig_direction.f k p q) (l, l + 3) ∧ At l p q ∧ -500000002 ≤ l ∧ l ≤ 499999999 ∧ (p = y0 → q = x0 → l = la) := by
  intro p q p1 p2 q1 q2 hz
  by_cases c : p = y0 ∧ q = x0
  ·rw [c.1, c.2]
   exact ⟨la, ea, Aa, la1, la2, fun _ _ => rfl⟩
  ·obtain ⟨l, e, A, l1, l2, _⟩ := dir_ev p1 p2 q1 q2 hz
   exact ⟨l, e, A, l1, l2, fun h1 h2 => absurd ⟨h1, h2⟩ c⟩
 obtain ⟨lb, eb, Ab, lb1, lb2, sb⟩ := same y0 x1 (by omega) (by omega) (by omega) (by omega) (by omega)
 obtain ⟨lc, ec, Ac, lc1, lc2, sc⟩ := same y1 x0 (by omega) (by omega) (by omega) (by omega) (by omega)
 obtain ⟨ld, ed, Ad, ld1, ld2, sd⟩ := same y1 x1 (by omega) (by omega) (by omega) (by omega) (by omega)
 clear same
 obtain ⟨kb, kb1, kb2, runb⟩ := arc_step (p := y0) (q := x1) (f0 := la) (i := 0) (i' := 1) (X4 := x1) (Y5 := y1) (X6 := x0) (Y7 := y1) (X8 := x1) (Y9 := y0) (f1 := la + 3) (by omega) (by omega) (by omega) rfl rfl eb lb1 lb2 la1 la2
 obtain ⟨kc, kc1, kc2, runc⟩ := arc_step (p := y1) (q := x0) (f0 := la) (i := 1) (i' := 2) (X4 := x1) (Y5 := y1) (X6 := x0) (Y7 := y1) (X8 := x1) (Y9 := y0) (f1 := la + 3) (by omega) (by omega) (by omega) rfl rfl ec lc1 lc2 la1 la2
 obtain ⟨kd, kd1, kd2, rund⟩ := arc_step (p := y1) (q := x1) (f0 := la) (i := 2) (i' := 3) (X4 := x1) (Y5 := y1) (X6 := x0) (Y7 := y1) (X8 := x1) (Y9 := y0) (f1 := la + 3) (by omega) (by omega) (by omega) rfl rfl ed ld1 ld2 la1 la2
 have Ab := at_shift Ab kb
 have Ac := at_shift Ac kc
 have Ad := at_shift Ad kd
 have sb' : y0 = y1 → x0 = x1 → lb - kb * 1000000000 = la ∧ lc - kc * 1000000000 = la ∧ ld - kd * 1000000000 = la := by
  intro h1 h2
  have := sb rfl h2.symm
  have := sc h1.symm rfl
  have := sd h1.symm h2.symm
  omega
 clear sb sc sd
 generalize lb - kb * 1000000000 = b at *
 generalize lc - kc * 1000000000 = c at *
 generalize ld - kd * 1000000000 = d at *
 have E := ends_of la b c d
 refine ⟨la, b, c, d, _, _, Aa, Ab, Ac, Ad, E, la1, la2, ⟨kb1, kb2⟩, ⟨kc1, kc2⟩, ⟨kd1, kd2⟩, sb', ?_⟩
 have H : Ev (fun k => trig_Arc.j0 k false y0 y1 x0 x1) (if mx (mx (mx (la + 3) (b + 3)) (c + 3)) (d + 3) - mn (mn (mn la b) c) d > 400000000 then (0, 0, 11) else (mn (mn (mn la b) c) d % 1000000000, mx (mx (mx (la + 3) (b + 3)) (c + 3)) (d + 3) - mn (mn (mn la b) c) d / 1000000000 * 1000000000, 0)) := by
  refine ev_step 1 (fun k => by rw [trig_Arc.j0, if_neg (by simp)]) ?_
  refine ev_bind ea ?_
  refine runb _ _ _ (runc _ _ _ (rund _ _ _ (ev_some 1 fun k => ?_)))
  have b1 : -1000000002 ≤ mn (mn (mn la b) c) d ∧ mn (mn (mn la b) c) d ≤ 1000000002 := by
   have := E.lone
   omega
  have b2 : -1000000002 ≤ mx (mx (mx (la + 3) (b + 3)) (c + 3)) (d + 3) ∧ mx (mx (mx (la + 3) (b + 3)) (c + 3)) (d + 3) ≤ 1000000012 := by
   have := E.hone
   omega
  generalize mx (mx (mx (la + 3) (b + 3)) (c + 3)) (d + 3) = hi at *
  generalize mn (mn (mn la b) c) d = lo at *
  rw [trig_Arc.l0, if_neg (by omega), w64 (x := hi - lo) (by omega) (by omega)]
  by_cases w : hi - lo > 400000000
  ·rw [if_pos w, if_pos w]
  ·rw [if_neg w, if_neg w, floor_pos (by omega) (by omega), Option.bind_some, w64 (x := lo / 1000000000 * 1000000000) (by omega) (by omega), w64 (x := lo - lo / 1000000000 * 1000000000) (by omega) (by omega), w64 (x := hi - lo / 1000000000 * 1000000000) (by omega) (by omega), show lo - lo / 1000000000 * 1000000000 = lo % 1000000000 by omega]
 unfold trig_Arc.f
 refine ev_bind cy ?_
 refine Ev.congr (fun k => if_pos rfl) ?_
 refine ev_bind cx ?_
 refine Ev.congr (fun k => if_pos rfl) ?_
 by_cases c1 : y0 ≤ 0
 ·by_cases c2 : y1 ≥ 0
  ·by_cases c3 : x0 ≤ 0
   ·have c4 : decide (x1 ≥ 0) = false := decide_eq_false (by omega)
    exact Ev.congr (fun k => by rw [if_pos c1, if_pos c2, if_pos c3, c4]) H
   ·exact Ev.congr (fun k => by rw [if_pos c1, if_pos c2, if_neg c3]) H
  ·exact Ev.congr (fun k => by rw [if_pos c1, if_neg c2]) H
 ·exact Ev.congr (fun k => by rw [if_neg c1]) H
theorem arc_open {y0 y1 x0 x1 : Int} (hy : sp y0 y1 = 0) (hx : sp x0 x1 = 0) (z : y0 ≤ 0 ∧ 0 ≤ y1 ∧ x0 ≤ 0 ∧ 0 ≤ x1) : Ev (fun k => trig_Arc.f k y0 y1 x0 x1) (0, 0, 11) := by
 have cy := interval_Check_ev y0 y1
 have cx := interval_Check_ev x0 x1
 rw [hy] at cy
 rw [hx] at cx
 obtain ⟨z1, z2, z3, z4⟩ := z
 unfold trig_Arc.f
 refine ev_bind cy ?_
 refine Ev.congr (fun k => if_pos rfl) ?_
 refine ev_bind cx ?_
 refine Ev.congr (fun k => if_pos rfl) ?_
 refine Ev.congr (fun k => by rw [if_pos z1, if_pos (show y1 ≥ 0 from z2), if_pos z3, decide_eq_true (show x1 ≥ 0 from z4)]) ?_
 exact ev_some 1 fun k => by rw [trig_Arc.j0, if_pos rfl]
theorem S_three : 188 / 10000000000 ≤ S (3 * 1000000) ∧ S (3 * 1000000) ≤ 189 / 10000000000 := by
 have e : S (3 * 1000000) = sinT (ag 3000000) := by unfold S; rw [show (3 * 1000000 : Int) % 1000000000000000 = 3000000 by omega]
 obtain ⟨_, a3, a4⟩ := T_taylor 3 (ag 3000000) (by decide +kernel)
 have e1 : F (s1 * ((ag 3000000 : Nat) : Rat)) 3 + s1 * dd 3 ≤ 1 / 100000000000000000000 := by decide +kernel
 have e2 : 1884955592 / 100000000000000000 ≤ sinP (s1 * ((ag 3000000 : Nat) : Rat)) 3 := by decide +kernel
 have e3 : sinP (s1 * ((ag 3000000 : Nat) : Rat)) 3 ≤ 1884955593 / 100000000000000000 := by decide +kernel
 rw [e]
 generalize F (s1 * ((ag 3000000 : Nat) : Rat)) 3 + s1 * dd 3 = x at *
 generalize sinP (s1 * ((ag 3000000 : Nat) : Rat)) 3 = y at *
 generalize sinT (ag 3000000) = z at *
 clear e
 constructor <;> grind
theorem cone_rat {p q D s3 c3 cb sb X Y St Ct Sm Cm M e : Rat} (M0 : 0 ≤ M) (e0 : 0 ≤ e) (p1 : -(2 * M) ≤ p) (p2 : p ≤ 2 * M) (q1 : -(2 * M) ≤ q) (q2 : q ≤ 2 * M)
  (s1 : -1 ≤ s3) (s2 : s3 ≤ 1) (b1 : -1 ≤ sb) (b2 : sb ≤ 1) (b3 : -1 ≤ cb) (b4 : cb ≤ 1)
  (h1 : Nr (-q - (c3 * p - s3 * D)) (e * M)) (h2 : Nr (X - (cb * p - sb * D)) (e * M)) (h3 : Nr (Y - (cb * D + sb * p)) (e * M)) (h4 : Nr (St - (s3 * cb - c3 * sb)) e) (h5 : Nr (Ct - (c3 * cb + s3 * sb)) e) (h6 : Nr (Sm + sb) e) (h7 : Nr (Cm - cb) e) :
  Nr (s3 * X - (p * St + q * Sm)) (6 * e * M) ∧ Nr (s3 * Y - (p * Ct + q * Cm)) (6 * e * M) := by
 unfold Nr at *
 have eM : 0 ≤ e * M := Rat.mul_nonneg e0 M0
 obtain ⟨a1, a2⟩ := abs_mul s1 s2 h2.1 h2.2
 obtain ⟨a3, a4⟩ := abs_mul s1 s2 h3.1 h3.2
 obtain ⟨a5, a6⟩ := abs_mul b1 b2 h1.1 h1.2
 obtain ⟨a7, a8⟩ := abs_mul b3 b4 h1.1 h1.2
 obtain ⟨a9, a10⟩ := abs_mul p1 p2 h4.1 h4.2
 obtain ⟨a11, a12⟩ := abs_mul p1 p2 h5.1 h5.2
 obtain ⟨a13, a14⟩ := abs_mul q1 q2 h6.1 h6.2
 obtain ⟨a15, a16⟩ := abs_mul q1 q2 h7.1 h7.2
 have k1 : s3 * X - (p * St + q * Sm) = s3 * (X - (cb * p - sb * D)) - sb * (-q - (c3 * p - s3 * D)) - p * (St - (s3 * cb - c3 * sb)) - q * (Sm + sb) := by grind
 have k2 : s3 * Y - (p * Ct + q * Cm) = s3 * (Y - (cb * D + sb * p)) + cb * (-q - (c3 * p - s3 * D)) - p * (Ct - (c3 * cb + s3 * sb)) - q * (Cm - cb) := by grind
 rw [k1, k2]
 have e2 : 2 * M * e = 2 * (e * M) := by grind
 have e6 : 6 * e * M = 6 * (e * M) := by grind
 rw [e2] at a9 a10 a11 a12 a13 a14 a15 a16
 rw [e6]
 generalize e * M = E at *
 generalize s3 * (X - (cb * p - sb * D)) = z1 at *
 generalize s3 * (Y - (cb * D + sb * p)) = z2 at *
 generalize sb * (-q - (c3 * p - s3 * D)) = z3 at *
 generalize cb * (-q - (c3 * p - s3 * D)) = z4 at *
 generalize p * (St - (s3 * cb - c3 * sb)) = z5 at *
 generalize p * (Ct - (c3 * cb + s3 * sb)) = z6 at *
 generalize q * (Sm + sb) = z7 at *
 generalize q * (Cm - cb) = z8 at *
 clear k1 k2 h1 h2 h3 h4 h5 h6 h7 e2 e6 p1 p2 q1 q2
 refine ⟨⟨?_, ?_⟩, ⟨?_, ?_⟩⟩ <;> grind
theorem nr_more {x e e' : Rat} (h : Nr x e) (he : e ≤ e') : Nr x e' := ⟨Rat.le_trans (Rat.neg_le_neg he) h.1, Rat.le_trans h.2 he⟩
theorem diff_pair (t b : Int) : Nr (S (t - b) - (S t * C b - C t * S b)) (1 / 10000000000000000000) ∧ Nr (C (t - b) - (C t * C b + S t * S b)) (1 / 10000000000000000000) := by
 obtain ⟨⟨h1, h2⟩, ⟨h3, h4⟩⟩ := SC_add t (-b)
 obtain ⟨⟨n1, n2⟩, ⟨n3, n4⟩⟩ := SC_neg b
 rw [show t + -b = t - b by omega] at h1 h2 h3 h4
 obtain ⟨u1, u2, u3, u4⟩ := SC_bound t
 obtain ⟨p1, p2⟩ := abs_mul u1 u2 n1 n2
 obtain ⟨p3, p4⟩ := abs_mul u3 u4 n1 n2
 obtain ⟨p5, p6⟩ := abs_mul u1 u2 n3 n4
 obtain ⟨p7, p8⟩ := abs_mul u3 u4 n3 n4
 unfold Nr
 generalize S (t - b) = x at *
 generalize C (t - b) = y at *
 generalize S (-b) = s' at *
 generalize C (-b) = c' at *
 generalize S b = sb at *
 generalize C b = cb at *
 generalize S t = st at *
 generalize C t = ct at *
 clear n1 n2 n3 n4 u1 u2 u3 u4
 refine ⟨⟨?_, ?_⟩, ⟨?_, ?_⟩⟩ <;> grind
theorem cone (l a : Int) {y x M : Rat} (y1 : -M ≤ y) (y2 : y ≤ M) (x1 : -M ≤ x) (x2 : x ≤ M) : Nr (S (3 * 1000000) * cr a y x - (cr (l * 1000000) y x * S ((l + 3) * 1000000 - a) + -cr ((l + 3) * 1000000) y x * S (l * 1000000 - a))) (6 * (1 / 10000000000000000000) * M) ∧
  Nr (S (3 * 1000000) * dt a y x - (cr (l * 1000000) y x * C ((l + 3) * 1000000 - a) + -cr ((l + 3) * 1000000) y x * C (l * 1000000 - a))) (6 * (1 / 10000000000000000000) * M) := by
 have M0 : 0 ≤ M := by grind
 have eM : 1 / 40000000000000000000 * M ≤ 1 / 10000000000000000000 * M := mul_le' M0 (by decide +kernel)
 have r1 := (rot (a := l * 1000000) (b := 3 * 1000000) y1 y2 x1 x2).1
 obtain ⟨r2, r3⟩ := rot (a := l * 1000000) (b := a - l * 1000000) y1 y2 x1 x2
 obtain ⟨r4, r5⟩ := diff_pair (3 * 1000000) (a - l * 1000000)
 obtain ⟨r6, r7⟩ := SC_neg (a - l * 1000000)
 rw [show l * 1000000 + 3 * 1000000 = (l + 3) * 1000000 by omega] at r1
 rw [show l * 1000000 + (a - l * 1000000) = a by omega] at r2 r3
 rw [show 3 * 1000000 - (a - l * 1000000) = (l + 3) * 1000000 - a by omega] at r4 r5
 rw [show -(a - l * 1000000) = l * 1000000 - a by omega] at r6 r7
 obtain ⟨p1, p2⟩ := cr_bound (a := l * 1000000) y1 y2 x1 x2
 obtain ⟨q1, q2⟩ := cr_bound (a := (l + 3) * 1000000) y1 y2 x1 x2
 obtain ⟨_, _, s1, s2⟩ := SC_bound (3 * 1000000)
 obtain ⟨b3, b4, b1, b2⟩ := SC_bound (a - l * 1000000)
 have h1 : Nr (- -cr ((l + 3) * 1000000) y x - (C (3 * 1000000) * cr (l * 1000000) y x - S (3 * 1000000) * dt (l * 1000000) y x)) (1 / 10000000000000000000 * M) := by
  rw [Rat.neg_neg]; exact nr_more r1 eM
 exact cone_rat M0 (by decide +kernel) p1 p2 (by grind) (by grind) s1 s2 b1 b2 b3 b4 h1 (nr_more r2 eM) (nr_more r3 eM) r4 r5 (nr_more r6 (by decide +kernel)) (nr_more r7 (by decide +kernel))
theorem sign_of {s X W M k : Rat} (M0 : 0 ≤ M) (s0 : 188 / 10000000000 ≤ s) (h : -(188 / 10000000000 * k * M) ≤ s * X) (k0 : 0 ≤ k) : -(k * M) ≤ X := by
 rcases (Rat.le_total : 0 ≤ X ∨ X ≤ 0) with c | c
 ·have := Rat.mul_nonneg k0 M0
  grind
 ·have := Rat.mul_le_mul_of_nonneg_left s0 (show 0 ≤ -X by grind)
  grind
theorem prod_ge {p s M k : Rat} (p0 : 0 ≤ p) (p2 : p ≤ 2 * M) (k0 : 0 ≤ k) (hs : -k ≤ s) : -(2 * k * M) ≤ p * s := by
 have h1 := Rat.mul_le_mul_of_nonneg_left hs p0
 have h2 := Rat.mul_le_mul_of_nonneg_left p2 k0
 grind
theorem part_lo {p q s X a b M : Rat} (M0 : 0 ≤ M) (p0 : 0 ≤ p) (p2 : p ≤ 2 * M) (q0 : 0 ≤ q) (q2 : q ≤ 2 * M) (s0 : 188 / 10000000000 ≤ s) (c : Nr (s * X - (p * a + q * b)) (6 * (1 / 10000000000000000000) * M)) (ha : -(1 / 200000000000000000000) ≤ a) (hb : -(1 / 200000000000000000000) ≤ b) : -(1 / 10000000000 * M) ≤ X := by
 refine sign_of (W := 0) M0 s0 ?_ (by decide +kernel)
 obtain ⟨c1, c2⟩ := c
 have k1 := prod_ge p0 p2 (by decide +kernel) ha
 have k2 := prod_ge q0 q2 (by decide +kernel) hb
 generalize p * a = z1 at *
 generalize q * b = z2 at *
 generalize s * X = z3 at *
 clear ha hb c2 p0 q0 p2 q2
 grind
theorem part_hi {p q s Y a b a' b' M : Rat} (M0 : 0 ≤ M) (p0 : 0 ≤ p) (p2 : p ≤ 2 * M) (q0 : 0 ≤ q) (q2 : q ≤ 2 * M) (s0 : 188 / 10000000000 ≤ s) (c : Nr (s * Y - (p * a' + q * b')) (6 * (1 / 10000000000000000000) * M)) (ha : -(1 / 200000000000000000000) ≤ a) (hb : -(1 / 200000000000000000000) ≤ b) (na : Nr (a' + a) (1 / 50000000000000000000)) (nb : Nr (b' + b) (1 / 50000000000000000000)) : Y ≤ 1 / 10000000000 * M := by
 obtain ⟨n1, n2⟩ := na
 obtain ⟨n3, n4⟩ := nb
 obtain ⟨c1, c2⟩ := c
 have h : -(1 / 10000000000 * M) ≤ -Y := by
  refine sign_of (W := 0) M0 s0 ?_ (by decide +kernel)
  have k1 := prod_ge (s := -a') (k := 1 / 40000000000000000000) p0 p2 (by decide +kernel) (by grind)
  have k2 := prod_ge (s := -b') (k := 1 / 40000000000000000000) q0 q2 (by decide +kernel) (by grind)
  have e1 : p * -a' = -(p * a') := by grind
  have e2 : q * -b' = -(q * b') := by grind
  have e3 : s * -Y = -(s * Y) := by grind
  rw [e1] at k1
  rw [e2] at k2
  rw [e3]
  generalize p * a' = z1 at *
  generalize q * b' = z2 at *
  generalize s * Y = z3 at *
  clear ha hb c1 p0 q0 p2 q2 n1 n2 n3 n4 e1 e2 e3
  grind
 clear c1 c2
 grind
theorem part_dot {p q s U V a b a' b' a2 b2 M : Rat} (M0 : 0 ≤ M) (p0 : 0 ≤ p) (p2 : p ≤ 2 * M) (q0 : 0 ≤ q) (q2 : q ≤ 2 * M) (s0 : 188 / 10000000000 ≤ s) (c : Nr (s * U - (p * a + q * b)) (6 * (1 / 10000000000000000000) * M)) (d : Nr (s * V - (p * a' + q * b')) (6 * (1 / 10000000000000000000) * M)) (ha : -(1 / 500000000000000000) ≤ a + a2) (hb : -(1 / 500000000000000000) ≤ b + b2) (na : Nr (a' - a2) (1 / 50000000000000000000)) (nb : Nr (b' - b2) (1 / 50000000000000000000)) : -(1 / 1000000000 * M) ≤ U + V := by
 obtain ⟨n1, n2⟩ := na
 obtain ⟨n3, n4⟩ := nb
 obtain ⟨c1, c2⟩ := c
 obtain ⟨d1, d2⟩ := d
 refine sign_of (W := 0) M0 s0 ?_ (by decide +kernel)
 have k1 := prod_ge (s := a + a') (k := 1 / 300000000000000000) p0 p2 (by decide +kernel) (by grind)
 have k2 := prod_ge (s := b + b') (k := 1 / 300000000000000000) q0 q2 (by decide +kernel) (by grind)
 have e1 : p * (a + a') = p * a + p * a' := by grind
 have e2 : q * (b + b') = q * b + q * b' := by grind
 have e3 : s * (U + V) = s * U + s * V := by grind
 rw [e1] at k1
 rw [e2] at k2
 rw [e3]
 generalize p * a = z1 at *
 generalize q * b = z2 at *
 generalize p * a' = z4 at *
 generalize q * b' = z5 at *
 generalize s * U = z3 at *
 generalize s * V = z6 at *
 clear ha hb p0 q0 p2 q2 n1 n2 n3 n4 e1 e2 e3 c2 d2
 grind
theorem nn_of {c m : Rat} (m0 : 0 ≤ m) (h : c ≤ -m) : 0 ≤ -c := by grind
theorem nn2_of {c M : Rat} (h : -(2 * M) ≤ c) : -c ≤ 2 * M := by grind
theorem C_pair {a b : Int} (a0 : 0 ≤ a) (b0 : 0 ≤ b) (h : a + b ≤ 500000000000000) : -(1 / 500000000000000000) ≤ C a + C b := by
 have k := C_dec a0 (show a ≤ 500000000000000 - b by omega) (by omega)
 obtain ⟨⟨h1, h2⟩, _⟩ := half_minus b
 generalize C (500000000000000 - b) = x at *
 generalize C a = y at *
 generalize C b = z at *
 grind
theorem in_cone {l lo hi : Int} {y x M m : Rat} (M0 : 0 ≤ M) (y1 : -M ≤ y) (y2 : y ≤ M) (x1 : -M ≤ x) (x2 : x ≤ M) (m0 : 0 ≤ m) (b : Btw l (l + 3) y x m) (hl : lo ≤ l) (hh : l + 3 ≤ hi) (hw : hi - lo ≤ 500000000) :
  -(1 / 10000000000 * M) ≤ cr (lo * 1000000) y x ∧ cr (hi * 1000000) y x ≤ 1 / 10000000000 * M ∧ -(1 / 1000000000 * M) ≤ dt (lo * 1000000) y x + dt (hi * 1000000) y x := by
 obtain ⟨_, b2, b3⟩ := b
 obtain ⟨c1, c2⟩ := cone l (lo * 1000000) y1 y2 x1 x2
 obtain ⟨c3, c4⟩ := cone l (hi * 1000000) y1 y2 x1 x2
 obtain ⟨p1, p2⟩ := cr_bound (a := l * 1000000) y1 y2 x1 x2
 obtain ⟨q1, q2⟩ := cr_bound (a := (l + 3) * 1000000) y1 y2 x1 x2
 have p0 : 0 ≤ cr (l * 1000000) y x := Rat.le_trans m0 b2
 have q0 := nn_of m0 b3
 have q2' := nn2_of q1
 have s1 := S_half (a := (l + 3) * 1000000 - lo * 1000000) (by omega) (by omega)
 have s2 := S_half (a := l * 1000000 - lo * 1000000) (by omega) (by omega)
 have s3 := S_half (a := hi * 1000000 - (l + 3) * 1000000) (by omega) (by omega)
 have s4 := S_half (a := hi * 1000000 - l * 1000000) (by omega) (by omega)
 have n3 := SC_neg (hi * 1000000 - (l + 3) * 1000000)
 have n4 := SC_neg (hi * 1000000 - l * 1000000)
 rw [show -(hi * 1000000 - (l + 3) * 1000000) = (l + 3) * 1000000 - hi * 1000000 by omega] at n3
 rw [show -(hi * 1000000 - l * 1000000) = l * 1000000 - hi * 1000000 by omega] at n4
 have g1 := C_pair (a := (l + 3) * 1000000 - lo * 1000000) (b := hi * 1000000 - (l + 3) * 1000000) (by omega) (by omega) (by omega)
 have g2 := C_pair (a := l * 1000000 - lo * 1000000) (b := hi * 1000000 - l * 1000000) (by omega) (by omega) (by omega)
 obtain ⟨t0, _⟩ := S_three
 exact ⟨part_lo M0 p0 p2 q0 q2' t0 c1 s1 s2, part_hi M0 p0 p2 q0 q2' t0 c3 s3 s4 n3.1 n4.1, part_dot M0 p0 p2 q0 q2' t0 c2 c4 g1 g2 n3.2 n4.2⟩
end Go.Proofs.Ytmahlfjnejbcnaa.ArcT
