/- SunEquators: Equator contains the conversions of the bounds. -/
import Derived.Test.YtedakilpogagiaaSunEquatorsn20
import Derived.Test.YtedakilpogagiaaSunEquatorsn47
namespace Go.Proofs.Ytedakilpogagiaa.Pure
open Go Go.RowKit Go.Proofs.YtedakilpogagiaaW.PrintWords Go.Proofs.YtedakilpogagiaaW.PrintLast Go.Proofs.YtedakilpogagiaaW.PrintMore Go.Proofs.Ytedakilpogagiaa.Opn Go.Proofs.Ytedakilpogagiaa.PAll Go.Proofs.Ytedakilpogagiaa.Base Go.Proofs.Ytedakilpogagiaa.Turn Go.Proofs.Ytedakilpogagiaa.OctT Go.Proofs.Ytedakilpogagiaa.SinT Go.Proofs.Ytedakilpogagiaa.RefT Go.Proofs.Ytedakilpogagiaa.Circ Go.Proofs.Ytedakilpogagiaa.Over Go.Proofs.Ytedakilpogagiaa.Units Go.Proofs.Ytedakilpogagiaa.Args Go.Proofs.Ytedakilpogagiaa.Vals Go.Proofs.Ytedakilpogagiaa.Cone Go.Proofs.Ytedakilpogagiaa.Arcs Go.Proofs.Ytedakilpogagiaa.ArcT Go.Proofs.Ytedakilpogagiaa.ArcSinT Go.Proofs.Ytedakilpogagiaa.NarrowT Go.Proofs.Ytedakilpogagiaa.EqT Go.Proofs.Ytedakilpogagiaa.EqN
set_option linter.unusedVariables false
set_option linter.unusedSimpArgs false
theorem sun_works : Ev (fun k => ephemerislaw2_sunWorks.f k) true := Ev.of ephemerislaw2_sunWorks.mono (k := 120) (by decide +kernel)
theorem none_at (e : Int) : ephemerislaw2_none.f 0 0 e e = some true := by unfold ephemerislaw2_none.f; simp
theorem spanErr_at (k : Nat) (a b : Int) : ephemerisref2_SpanErr.f (k + 1) a b = some (sp a b) := by
 unfold ephemerisref2_SpanErr.f sp
 by_cases c1 : a < -1000000000000000000
 ·simp [c1, ephemerisref2_SpanErr.j0]
 by_cases c2 : a > 1000000000000000000
 ·simp [c1, c2, ephemerisref2_SpanErr.j0]
 by_cases c3 : b < -1000000000000000000
 ·simp [c1, c2, c3, ephemerisref2_SpanErr.j0]
 by_cases c4 : b > 1000000000000000000
 ·simp [c1, c2, c3, c4, ephemerisref2_SpanErr.j0]
 by_cases c5 : b < a
 ·simp [c1, c2, c3, c4, c5, ephemerisref2_SpanErr.j0]
 ·simp [c1, c2, c3, c4, c5, ephemerisref2_SpanErr.j0]
theorem spanErr_ev (a b : Int) : Ev (fun k => ephemerisref2_SpanErr.f k a b) (sp a b) := ev_some 1 fun k => spanErr_at k a b
theorem twoErr_ev (a b c d : Int) : Ev (fun k => ephemerisref2_TwoErr.f k a b c d) (if sp a b = 0 then sp c d else sp a b) := by
 unfold ephemerisref2_TwoErr.f
 refine ev_bind (spanErr_ev a b) ?_
 by_cases h : sp a b = 0
 ·simp only [if_pos h]
  exact ev_bind (spanErr_ev c d) (ev_some 0 fun k => rfl)
 ·simp only [if_neg h]
  exact ev_some 0 fun k => rfl
theorem mod9 {l : Int} (h0 : -1000000000000000000 ≤ l) (h1 : l ≤ 1000000000000000000) : ephemerisref2_Mod.f l 1000000000 = some (l % 1000000000) := mod_pos (by omega) (by omega)
theorem ag_lon (l : Int) : ag2 (l % 1000000000 * 1048576) % 1000000000000000 = (l * 1000000) % 1000000000000000 := by unfold ag2; omega
theorem ag_lat (b : Int) : ag2 (b * 1048576) % 1000000000000000 = (b * 1000000) % 1000000000000000 := by unfold ag2; omega
theorem ten {x : Rat} (h : Nr x 10000000) : Nr x 20000000 := by unfold Nr at *; constructor <;> grind
section
variable {lo hi la lb A0 A1 B0 B1 : Int}
theorem step {l b i j : Int} {xs ys : List Int} {n m : Int} {r : Bool} (F : Fits lo hi la lb A0 A1 B0 B1) (l0 : -1000000000000000000 ≤ l) (l1 : l ≤ 1000000000000000000) (r0 : lo ≤ l) (r1 : l ≤ hi) (q0 : la ≤ b) (q1 : b ≤ lb) (b0 : -125000000 ≤ b) (b1 : b ≤ 125000000) (hr : rd xs j = b) (j0 : 0 ≤ j) (jm : j < m) (hx : (xs.length : Int) = m) (m2 : m ≤ 4)
  (next : Ev (fun k => ephemerislaw2_SunEquators.l1 k l ys n i xs m (j + 1) la lb A0 A1 B0 B1) r) : Ev (fun k => ephemerislaw2_SunEquators.l1 k l ys n i xs m j la lb A0 A1 B0 B1) r := by
 obtain ⟨X, Y, Z, e, eX', eY', eZ'⟩ := refEq_ev (v := l % 1000000000 * 1048576) (w := b * 1048576) (by omega) (by omega) (by omega) (by omega)
 obtain ⟨p1, p2, p3⟩ := e_per (ag_lon l) (ag_lat b)
 rw [p1] at eX'
 rw [p2] at eY'
 rw [p3] at eZ'
 obtain ⟨f1, f2⟩ := F (l * 1000000) (b * 1000000) (by omega) (by omega) (by omega) (by omega) X Y Z (ten eX') (ten eY') (ten eZ')
 refine ev_step 1 (fun k => by rw [ephemerislaw2_SunEquators.l1, if_pos jm, if_pos j0, if_pos (by omega), mod9 l0 l1, Option.bind_some, hr, w64 (x := l % 1000000000 * 1048576) (by omega) (by omega), w64 (x := b * 1048576) (by omega) (by omega)]) ?_
 refine ev_bind e (ev_bind f1 ?_)
 refine Ev.congr (fun k => if_pos rfl) (ev_bind f2 ?_)
 refine Ev.congr (fun k => if_pos rfl) ?_
 rw [w64 (x := j + 1) (by omega) (by omega)]
 exact next
theorem row {l i : Int} {r : Bool} (F : Fits lo hi la lb A0 A1 B0 B1) (l0 : -1000000000000000000 ≤ l) (l1 : l ≤ 1000000000000000000) (r0 : lo ≤ l) (r1 : l ≤ hi) (q1 : la ≤ lb) (b0 : -125000000 ≤ la) (b1 : lb ≤ 125000000) (i0 : 0 ≤ i) (i2 : i < 2) (hr : rd [lo, hi] i = l)
  (next : Ev (fun k => ephemerislaw2_SunEquators.l0 k [lo, hi] 2 (i + 1) la lb A0 A1 B0 B1) r) : Ev (fun k => ephemerislaw2_SunEquators.l0 k [lo, hi] 2 i la lb A0 A1 B0 B1) r := by
 have hl : ((([lo, hi] : List Int)).length : Int) = 2 := rfl
 have hl2 : ((([la, lb] : List Int)).length : Int) = 2 := rfl
 refine ev_step 1 (fun k => by rw [ephemerislaw2_SunEquators.l0, if_pos i2, if_pos i0, if_pos (by omega), hr, Option.bind_some, hl2]) ?_
 refine step F l0 l1 r0 r1 (b := la) (by omega) (by omega) (by omega) (by omega) rfl (by omega) (by omega) rfl (by omega) ?_
 refine step F l0 l1 r0 r1 (b := lb) (by omega) (by omega) (by omega) (by omega) rfl (by omega) (by omega) rfl (by omega) ?_
 exact ev_step 1 (fun k => by rw [ephemerislaw2_SunEquators.l1, if_neg (by omega), w64 (x := i + 1) (by omega) (by omega)]) next
theorem good (F : Fits lo hi la lb A0 A1 B0 B1) (l0 : -1000000000000000000 ≤ lo) (l1 : lo ≤ hi) (l2 : hi ≤ 1000000000000000000) (q1 : la ≤ lb) (b0 : -125000000 ≤ la) (b1 : lb ≤ 125000000) : Ev (fun k => ephemerislaw2_SunEquators.j1 k 0 0 lo hi la lb A0 A1 B0 B1) true := by
 have hl : ((([lo, hi] : List Int)).length : Int) = 2 := rfl
 refine ev_step 1 (fun k => by rw [ephemerislaw2_SunEquators.j1, if_pos rfl, if_pos rfl, Option.bind_some, hl]) ?_
 refine row F (l := lo) (by omega) (by omega) (by omega) (by omega) q1 b0 b1 (by omega) (by omega) rfl ?_
 refine row F (l := hi) (by omega) (by omega) (by omega) (by omega) q1 b0 b1 (by omega) (by omega) rfl ?_
 exact ev_some 1 fun k => by rw [ephemerislaw2_SunEquators.l0, if_neg (by omega)]
theorem open_ok (h : lo < hi ∨ la < lb) : Ev (fun k => ephemerislaw2_SunEquators.j1 k 11 0 lo hi la lb 0 0 0 0) true := by
 refine ev_some 1 fun k => ?_
 rw [ephemerislaw2_SunEquators.j1, if_pos rfl, if_neg (by decide), if_pos rfl]
 by_cases c : lo < hi
 ·rw [if_pos c]
 ·rw [if_neg c, decide_eq_true (by omega)]
theorem bad_ok {e : Int} (h : e ≠ 0) : Ev (fun k => ephemerislaw2_SunEquators.j1 k e e lo hi la lb 0 0 0 0) true :=
 ev_some 1 fun k => by rw [ephemerislaw2_SunEquators.j1, if_neg h, none_at, Option.bind_some, if_pos rfl]; rfl
end
theorem C8 {s : Int} (h0 : -125000000000000 ≤ s) (h1 : s ≤ 125000000000000) : 707 / 1000 ≤ C s := by
 have a := S8C8
 have sq := SC_sq (125000000 * 1000000)
 have e8 : 7071 / 10000 ≤ C 125000000000000 := by
  rw [show (125000000 : Int) * 1000000 = 125000000000000 by omega] at a sq
  have c := C_quarter (a := 125000000) (by omega) (by omega)
  rw [show (125000000 : Int) * 1000000 = 125000000000000 by omega] at c
  generalize C 125000000000000 = x at *
  generalize S 125000000000000 = y at *
  rcases Rat.le_total (a := 7071 / 10000) (b := x) with n | n
  ·exact n
  ·exfalso
   have k := OctT.abs_mul (a := x) (b := x) (A := 7071 / 10000) (B := 7071 / 10000) (by grind) n (by grind) n
   have k2 := OctT.abs_mul (a := y) (b := y) (A := 70710001 / 100000000) (B := 70710001 / 100000000) (by grind) (by grind) (by grind) (by grind)
   grind
 rcases Int.lt_or_le s 0 with n | n
 ·have d := C_dec (a := -s) (b := 125000000000000) (by omega) (by omega) (by omega)
  have m := (SC_neg s).2
  unfold Nr at m
  generalize C 125000000000000 = x at *
  generalize C (-s) = y at *
  generalize C s = z at *
  grind
 ·have d := C_dec (a := s) (b := 125000000000000) (by omega) (by omega) (by omega)
  generalize C 125000000000000 = x at *
  generalize C s = z at *
  grind
theorem z_rat' {a b d e f : Rat} (ha : 707 / 1000 ≤ a) (n1 : a * a + b * b = 1) (d0 : -1 ≤ d) (d1 : d ≤ 1) (e0 : 917 / 1000 ≤ e) (f0 : 0 ≤ f) (f1 : f ≤ 398 / 1000) (n2 : e * e + f * f = 1) (hb : -(7073 / 10000) ≤ b ∧ b ≤ 7073 / 10000) : -(933 / 1000) ≤ a * d * f + b * e ∧ a * d * f + b * e ≤ 933 / 1000 := by
 have a0 : 0 ≤ a := by grind
 have af := Rat.mul_nonneg a0 f0
 have e00 : 0 ≤ e := by grind
 have one : ∀ B : Rat, 0 ≤ B → B ≤ 7073 / 10000 → a * a + B * B = 1 → a * f + B * e ≤ 933 / 1000 := by
  intro B B0 B1 n
  have p1 := Rat.mul_le_mul_of_nonneg_left e0 a0
  have p2 := Rat.mul_le_mul_of_nonneg_left f1 B0
  have q : 366 / 1000 ≤ a * e - B * f := by grind
  have sq : (a * f + B * e) * (a * f + B * e) + (a * e - B * f) * (a * e - B * f) = (a * a + B * B) * (e * e + f * f) := by grind
  rw [n, n2] at sq
  have q2 : 366 / 1000 * (366 / 1000) ≤ (a * e - B * f) * (a * e - B * f) := by
   have k1 := Rat.mul_le_mul_of_nonneg_left q (show (0 : Rat) ≤ 366 / 1000 by decide +kernel)
   have k2 := Rat.mul_le_mul_of_nonneg_left q (show 0 ≤ a * e - B * f by grind)
   grind
  exact (NarrowT.le_of_sq (r := 933 / 1000) (by decide +kernel) (by grind)).1
 have adf := OctT.abs_mul (a := d) (b := a * f) (A := 1) (B := a * f) d0 d1 (by grind) (by grind)
 rcases (Rat.le_total : (0 : Rat) ≤ b ∨ b ≤ 0) with n | n
 ·have o := one b n hb.2 n1
  have be := Rat.mul_nonneg n e00
  constructor <;> grind
 ·have o := one (-b) (by grind) (by grind) (by grind)
  have be := Rat.mul_nonneg (show 0 ≤ -b by grind) e00
  constructor <;> grind
theorem z_bound {t s : Int} (h0 : -125000000000000 ≤ s) (h1 : s ≤ 125000000000000) : -(933 / 1000) ≤ eZ t s ∧ eZ t s ≤ 933 / 1000 := by
 have c := C8 h0 h1
 have q1 := SC_sq s
 have q2 : Ce * Ce + Se * Se = 1 := SC_sq 65109000000000
 obtain ⟨⟨g1, g2⟩, ⟨g3, g4⟩⟩ := tilt_bounds
 obtain ⟨b1, b2, b3, b4⟩ := SC_bound t
 unfold eZ
 generalize C s = x at *
 generalize S s = y at *
 generalize S t = z at *
 generalize Ce = e at *
 generalize Se = f at *
 have xx : 707 / 1000 * (707 / 1000) ≤ x * x := by
  have k1 := Rat.mul_le_mul_of_nonneg_left c (show (0 : Rat) ≤ 707 / 1000 by decide +kernel)
  have k2 := Rat.mul_le_mul_of_nonneg_left c (show 0 ≤ x by grind)
  grind
 have hb : -(7073 / 10000) ≤ y ∧ y ≤ 7073 / 10000 := ⟨(NarrowT.le_of_sq (r := 7073 / 10000) (by decide +kernel) (by grind)).2, (NarrowT.le_of_sq (r := 7073 / 10000) (by decide +kernel) (by grind)).1⟩
 exact z_rat' c q1 b3 b4 g1 (by grind) g4 q2 hb
theorem pt_ev {l b : Int} (h1 : sp l l = 0) (h2 : sp b b = 0) (b0 : -125000000 ≤ b) (b1 : b ≤ 125000000) : ∃ A0 A1 B0 B1 : Int, Ev (fun k => sun_Equator.f k l l b b) (A0, A1, B0, B1, 0) ∧ Fits l l b b A0 A1 B0 B1 := by
 have zb := z_bound (t := l * 1000000) (s := b * 1000000) (by omega) (by omega)
 obtain ⟨A0, A1, B0, B1, z0, z1, e, F, _⟩ := eq_narrow h1 h2 b0 b1 (by omega) (D := 30) (wy := 22) (wx := 8) (K := 7400) (by omega) (by omega) (by omega) (by omega) (zm := 933 / 1000) (ρ := 359000000) (W := 24) (κ := 4649 / 100000000) (by decide +kernel) zb (by decide +kernel) (by decide +kernel) (by decide +kernel) (by decide +kernel) (by decide +kernel) S_7400 (by omega) (by omega) (by decide +kernel) (by decide +kernel)
 exact ⟨A0, A1, B0, B1, e, F⟩
theorem any_ev {lo hi la lb : Int} (h1 : sp lo hi = 0) (h2 : sp la lb = 0) (b0 : -125000000 ≤ la) (b1 : lb ≤ 125000000) : (∃ A0 A1 B0 B1 : Int, Ev (fun k => sun_Equator.f k lo hi la lb) (A0, A1, B0, B1, 0) ∧ Fits lo hi la lb A0 A1 B0 B1) ∨ (Ev (fun k => sun_Equator.f k lo hi la lb) (0, 0, 0, 0, 11) ∧ (lo < hi ∨ la < lb)) := by
 obtain ⟨p1, p2, p3⟩ := sp_zero h1
 obtain ⟨q1, q2, q3⟩ := sp_zero h2
 by_cases pt : lo = hi ∧ la = lb
 ·obtain ⟨e1, e2⟩ := pt
  subst e1 e2
  exact Or.inl (pt_ev h1 h2 b0 b1)
 have ne : lo < hi ∨ la < lb := by omega
 obtain ⟨y0, y1, x0, x1, z0, z1, bx, f1, f2⟩ := eq_core h1 h2 b0 b1
 by_cases nz : y0 ≤ 0 ∧ 0 ≤ y1 ∧ x0 ≤ 0 ∧ 0 ≤ x1
 ·exact Or.inr ⟨f1 nz, ne⟩
 obtain ⟨a, b, c, d, p, q, A, B, A1, A2, A3, A4, E, _, _, _, hs, bad, ok⟩ := f2 nz
 by_cases w : q - p ≤ 400000000
 ·exact Or.inl ⟨_, _, A, B, ok w, fun t s t0 t1 s0 s1 dX dY dZ hX hY hZ => eq_holds bx A1 A2 A3 A4 E hs w t0 t1 s0 s1 hX hY hZ⟩
 ·exact Or.inr ⟨bad (by omega), ne⟩
theorem SunEquators : PureX := by
 intro s0 s1 w0 w1
 rcases s0 with ⟨lo, hi⟩
 rcases s1 with ⟨la, lb⟩
 refine ev_k ?_
 unfold ephemerislaw2_SunEquators.f
 refine ev_bind sun_works ?_
 refine Ev.congr (fun k => if_pos rfl) ?_
 show Ev (fun k => (sun_Equator.f k lo hi la lb).bind _) true
 dsimp only
 have t := twoErr_ev lo hi la lb
 by_cases h1 : sp lo hi = 0
 ·rw [if_pos h1] at t
  by_cases h2 : sp la lb = 0
  ·rw [h2] at t
   obtain ⟨p1, p2, p3⟩ := sp_zero h1
   obtain ⟨q1, q2, q3⟩ := sp_zero h2
   by_cases r : la < -125000000 ∨ lb > 125000000
   ·refine ev_bind (equator_bad (e := 3) (by rw [if_neg (by omega), if_neg (by omega), if_pos r]) (by decide)) (ev_bind t ?_)
    refine Ev.congr (fun k => if_pos rfl) ?_
    have fin : Ev (fun k => ephemerislaw2_SunEquators.j0 k 3 0 true lo hi la lb 0 0 0 0) true := ev_step 1 (fun k => by rw [ephemerislaw2_SunEquators.j0, if_pos rfl]) (bad_ok (by decide))
    by_cases c : la < -125000000
    ·exact Ev.congr (fun k => if_pos c) fin
    ·refine Ev.congr (fun k => if_neg c) ?_
     rw [decide_eq_true (by omega)]
     exact fin
   ·have go : ∀ e A0 A1 B0 B1 : Int, Ev (fun k => ephemerislaw2_SunEquators.j1 k e 0 lo hi la lb A0 A1 B0 B1) true → Ev (fun k => if la < -125000000 then ephemerislaw2_SunEquators.j0 k e 0 true lo hi la lb A0 A1 B0 B1 else ephemerislaw2_SunEquators.j0 k e 0 (decide (lb > 125000000)) lo hi la lb A0 A1 B0 B1) true := by
     intro e A0 A1 B0 B1 h
     refine Ev.congr (fun k => if_neg (by omega)) ?_
     rw [decide_eq_false (by omega)]
     exact ev_step 1 (fun k => by rw [ephemerislaw2_SunEquators.j0, if_neg (by simp)]) h
    rcases any_ev h1 h2 (by omega) (by omega) with ⟨A0, A1, B0, B1, e, F⟩ | ⟨e, ne⟩
    ·refine ev_bind e (ev_bind t ?_)
     refine Ev.congr (fun k => if_pos rfl) ?_
     exact go 0 A0 A1 B0 B1 (good F (by omega) (by omega) (by omega) (by omega) (by omega) (by omega))
    ·refine ev_bind e (ev_bind t ?_)
     refine Ev.congr (fun k => if_pos rfl) ?_
     exact go 11 0 0 0 0 (open_ok ne)
  ·refine ev_bind (equator_bad (e := sp la lb) (by rw [if_neg (by omega), if_pos h2]) h2) (ev_bind t ?_)
   refine Ev.congr (fun k => if_neg h2) ?_
   exact ev_step 1 (fun k => by rw [ephemerislaw2_SunEquators.j0, if_neg (by simp)]) (bad_ok h2)
 ·rw [if_neg h1] at t
  refine ev_bind (equator_bad (e := sp lo hi) (by rw [if_pos h1]) h1) (ev_bind t ?_)
  refine Ev.congr (fun k => if_neg h1) ?_
  exact ev_step 1 (fun k => by rw [ephemerislaw2_SunEquators.j0, if_neg (by simp)]) (bad_ok h1)
end Go.Proofs.Ytedakilpogagiaa.Pure
