/- Arc: its interval holds the angles of the corners; cones of angles. -/
import Derived.Test.YtelcegpaakbppaaTrigArcSinsn9
import Derived.Test.YtelcegpaakbppaaTrigArcSinsn10
import Derived.Test.YtelcegpaakbppaaTrigArcSinsn28
namespace Go.Proofs.Ytelcegpaakbppaa.ArcT
open Go.RowKit Go.Proofs.YtelcegpaakbppaaW.PrintWords Go.Proofs.YtelcegpaakbppaaW.PrintLast Go.Proofs.YtelcegpaakbppaaW.PrintMore Go.Proofs.Ytelcegpaakbppaa.Opn Go.Proofs.Ytelcegpaakbppaa.PAll Go.Proofs.Ytelcegpaakbppaa.Base Go.Proofs.Ytelcegpaakbppaa.Turn Go.Proofs.Ytelcegpaakbppaa.Fix Go.Proofs.Ytelcegpaakbppaa.Oct Go.Proofs.Ytelcegpaakbppaa.OctT Go.Proofs.Ytelcegpaakbppaa.SinT Go.Proofs.Ytelcegpaakbppaa.RefT Go.Proofs.Ytelcegpaakbppaa.Circ Go.Proofs.Ytelcegpaakbppaa.Over Go.Proofs.Ytelcegpaakbppaa.Units Go.Proofs.Ytelcegpaakbppaa.Acute Go.Proofs.Ytelcegpaakbppaa.Cone Go.Proofs.Ytelcegpaakbppaa.Arcs
set_option linter.unusedVariables false
set_option linter.unusedSimpArgs false
/-- The direction of a corner: between l and l + 3. -/
def At (l : Int) (y x : Int) : Prop := ∃ M : Int, Btw l (l + 3) (y : Rat) (x : Rat) (190 / 100000000000 * (M : Rat)) ∧ -M ≤ y ∧ y ≤ M ∧ -M ≤ x ∧ x ≤ M ∧ 0 < M ∧ (M = y ∨ M = -y ∨ M = x ∨ M = -x)
theorem dir_ev {y x : Int} (y1 : -1000000000000000000 ≤ y) (y2 : y ≤ 1000000000000000000) (x1 : -1000000000000000000 ≤ x) (x2 : x ≤ 1000000000000000000) (hz : y ≠ 0 ∨ x ≠ 0) : ∃ l, Ev (fun k => trig_direction.f k y x) (l, l + 3) ∧ At l y x ∧ -500000002 ≤ l ∧ l ≤ 499999999 ∧ (0 ≤ x → -250000002 ≤ l ∧ l ≤ 249999999) := by
  obtain ⟨l, h, M, e, b, m1, m2, m3, m4, m5, m6, l1, h1, hp⟩ := direction_tells y1 y2 x1 x2 hz
  obtain rfl : h = l + 3 := b.1
  exact ⟨l, e, ⟨M, b, m1, m2, m3, m4, m5, m6⟩, l1, by omega, fun hx => by have := hp hx; omega⟩
theorem S_three : 188 / 10000000000 ≤ S (3 * 1000000) ∧ S (3 * 1000000) ≤ 189 / 10000000000 := by
  have e : S (3 * 1000000) = sinT (ag 3000000) := by unfold S; rw [show (3 * 1000000 : Int) % 1000000000000000 = 3000000 by omega]
  obtain ⟨_, a3, a4⟩ := T_taylor 3 (ag 3000000) (by decide +kernel)
  have e1 : F (s1 * ((ag 3000000 : Nat) : Rat)) 3 + s1 * dd 3 ≤ 1 / 100000000000000000000 := by decide +kernel
  have e2 : 1884955592 / 100000000000000000 ≤ sinP (s1 * ((ag 3000000 : Nat) : Rat)) 3 := by decide +kernel
  have e3 : sinP (s1 * ((ag 3000000 : Nat) : Rat)) 3 ≤ 1884955593 / 100000000000000000 := by decide +kernel
  rw [e]
  generalize F (s1 * ((ag 3000000 : Nat) : Rat)) 3 + s1 * dd 3 = x at *
  generalize sinP (s1 * ((ag 3000000 : Nat) : Rat)) 3 = y at *
  generalize sinT (ag 3000000) = z at *
  clear e
  constructor <;> grind
theorem cone_rat {p q D s3 c3 cb sb X Y St Ct Sm Cm M e : Rat} (M0 : 0 ≤ M) (e0 : 0 ≤ e) (p1 : -(2 * M) ≤ p) (p2 : p ≤ 2 * M) (q1 : -(2 * M) ≤ q) (q2 : q ≤ 2 * M)
    (s1 : -1 ≤ s3) (s2 : s3 ≤ 1) (b1 : -1 ≤ sb) (b2 : sb ≤ 1) (b3 : -1 ≤ cb) (b4 : cb ≤ 1)
    (h1 : Nr (-q - (c3 * p - s3 * D)) (e * M)) (h2 : Nr (X - (cb * p - sb * D)) (e * M)) (h3 : Nr (Y - (cb * D + sb * p)) (e * M)) (h4 : Nr (St - (s3 * cb - c3 * sb)) e) (h5 : Nr (Ct - (c3 * cb + s3 * sb)) e) (h6 : Nr (Sm + sb) e) (h7 : Nr (Cm - cb) e) :
    Nr (s3 * X - (p * St + q * Sm)) (6 * e * M) ∧ Nr (s3 * Y - (p * Ct + q * Cm)) (6 * e * M) := by
  unfold Nr at *
  have eM : 0 ≤ e * M := Rat.mul_nonneg e0 M0
  obtain ⟨a1, a2⟩ := abs_mul s1 s2 h2.1 h2.2
  obtain ⟨a3, a4⟩ := abs_mul s1 s2 h3.1 h3.2
  obtain ⟨a5, a6⟩ := abs_mul b1 b2 h1.1 h1.2
  obtain ⟨a7, a8⟩ := abs_mul b3 b4 h1.1 h1.2
  obtain ⟨a9, a10⟩ := abs_mul p1 p2 h4.1 h4.2
  obtain ⟨a11, a12⟩ := abs_mul p1 p2 h5.1 h5.2
  obtain ⟨a13, a14⟩ := abs_mul q1 q2 h6.1 h6.2
  obtain ⟨a15, a16⟩ := abs_mul q1 q2 h7.1 h7.2
  have k1 : s3 * X - (p * St + q * Sm) = s3 * (X - (cb * p - sb * D)) - sb * (-q - (c3 * p - s3 * D)) - p * (St - (s3 * cb - c3 * sb)) - q * (Sm + sb) := by grind
  have k2 : s3 * Y - (p * Ct + q * Cm) = s3 * (Y - (cb * D + sb * p)) + cb * (-q - (c3 * p - s3 * D)) - p * (Ct - (c3 * cb + s3 * sb)) - q * (Cm - cb) := by grind
  rw [k1, k2]
  have e2 : 2 * M * e = 2 * (e * M) := by grind
  have e6 : 6 * e * M = 6 * (e * M) := by grind
  rw [e2] at a9 a10 a11 a12 a13 a14 a15 a16
  rw [e6]
  generalize e * M = E at *
  generalize s3 * (X - (cb * p - sb * D)) = z1 at *
  generalize s3 * (Y - (cb * D + sb * p)) = z2 at *
  generalize sb * (-q - (c3 * p - s3 * D)) = z3 at *
  generalize cb * (-q - (c3 * p - s3 * D)) = z4 at *
  generalize p * (St - (s3 * cb - c3 * sb)) = z5 at *
  generalize p * (Ct - (c3 * cb + s3 * sb)) = z6 at *
  generalize q * (Sm + sb) = z7 at *
  generalize q * (Cm - cb) = z8 at *
  clear k1 k2 h1 h2 h3 h4 h5 h6 h7 e2 e6 p1 p2 q1 q2
  refine ⟨⟨?_, ?_⟩, ⟨?_, ?_⟩⟩ <;> grind
theorem nr_more {x e e' : Rat} (h : Nr x e) (he : e ≤ e') : Nr x e' := ⟨Rat.le_trans (Rat.neg_le_neg he) h.1, Rat.le_trans h.2 he⟩
theorem diff_pair (t b : Int) : Nr (S (t - b) - (S t * C b - C t * S b)) (1 / 10000000000000000000) ∧ Nr (C (t - b) - (C t * C b + S t * S b)) (1 / 10000000000000000000) := by
  obtain ⟨⟨h1, h2⟩, ⟨h3, h4⟩⟩ := SC_add t (-b)
  obtain ⟨⟨n1, n2⟩, ⟨n3, n4⟩⟩ := SC_neg b
  rw [show t + -b = t - b by omega] at h1 h2 h3 h4
  obtain ⟨u1, u2, u3, u4⟩ := SC_bound t
  obtain ⟨p1, p2⟩ := abs_mul u1 u2 n1 n2
  obtain ⟨p3, p4⟩ := abs_mul u3 u4 n1 n2
  obtain ⟨p5, p6⟩ := abs_mul u1 u2 n3 n4
  obtain ⟨p7, p8⟩ := abs_mul u3 u4 n3 n4
  unfold Nr
  generalize S (t - b) = x at *
  generalize C (t - b) = y at *
  generalize S (-b) = s' at *
  generalize C (-b) = c' at *
  generalize S b = sb at *
  generalize C b = cb at *
  generalize S t = st at *
  generalize C t = ct at *
  clear n1 n2 n3 n4 u1 u2 u3 u4
  refine ⟨⟨?_, ?_⟩, ⟨?_, ?_⟩⟩ <;> grind
/-- Where a direction lies, seen from any angle, by its two sides' distances. -/
theorem cone (l a : Int) {y x M : Rat} (y1 : -M ≤ y) (y2 : y ≤ M) (x1 : -M ≤ x) (x2 : x ≤ M) : Nr (S (3 * 1000000) * cr a y x - (cr (l * 1000000) y x * S ((l + 3) * 1000000 - a) + -cr ((l + 3) * 1000000) y x * S (l * 1000000 - a))) (6 * (1 / 10000000000000000000) * M) ∧
    Nr (S (3 * 1000000) * dt a y x - (cr (l * 1000000) y x * C ((l + 3) * 1000000 - a) + -cr ((l + 3) * 1000000) y x * C (l * 1000000 - a))) (6 * (1 / 10000000000000000000) * M) := by
  have M0 : 0 ≤ M := by grind
  have eM : 1 / 40000000000000000000 * M ≤ 1 / 10000000000000000000 * M := mul_le' M0 (by decide +kernel)
  have r1 := (rot (a := l * 1000000) (b := 3 * 1000000) y1 y2 x1 x2).1
  obtain ⟨r2, r3⟩ := rot (a := l * 1000000) (b := a - l * 1000000) y1 y2 x1 x2
  obtain ⟨r4, r5⟩ := diff_pair (3 * 1000000) (a - l * 1000000)
  obtain ⟨r6, r7⟩ := SC_neg (a - l * 1000000)
  rw [show l * 1000000 + 3 * 1000000 = (l + 3) * 1000000 by omega] at r1
  rw [show l * 1000000 + (a - l * 1000000) = a by omega] at r2 r3
  rw [show 3 * 1000000 - (a - l * 1000000) = (l + 3) * 1000000 - a by omega] at r4 r5
  rw [show -(a - l * 1000000) = l * 1000000 - a by omega] at r6 r7
  obtain ⟨p1, p2⟩ := cr_bound (a := l * 1000000) y1 y2 x1 x2
  obtain ⟨q1, q2⟩ := cr_bound (a := (l + 3) * 1000000) y1 y2 x1 x2
  obtain ⟨_, _, s1, s2⟩ := SC_bound (3 * 1000000)
  obtain ⟨b3, b4, b1, b2⟩ := SC_bound (a - l * 1000000)
  have h1 : Nr (- -cr ((l + 3) * 1000000) y x - (C (3 * 1000000) * cr (l * 1000000) y x - S (3 * 1000000) * dt (l * 1000000) y x)) (1 / 10000000000000000000 * M) := by
    rw [Rat.neg_neg]; exact nr_more r1 eM
  exact cone_rat M0 (by decide +kernel) p1 p2 (by grind) (by grind) s1 s2 b1 b2 b3 b4 h1 (nr_more r2 eM) (nr_more r3 eM) r4 r5 (nr_more r6 (by decide +kernel)) (nr_more r7 (by decide +kernel))
/-- A positive multiple's sign. -/
theorem sign_of {s X W M k : Rat} (M0 : 0 ≤ M) (s0 : 188 / 10000000000 ≤ s) (h : -(188 / 10000000000 * k * M) ≤ s * X) (k0 : 0 ≤ k) : -(k * M) ≤ X := by
  rcases (Rat.le_total : 0 ≤ X ∨ X ≤ 0) with c | c
  · have := Rat.mul_nonneg k0 M0
    grind
  · have := Rat.mul_le_mul_of_nonneg_left s0 (show 0 ≤ -X by grind)
    grind
theorem prod_ge {p s M k : Rat} (p0 : 0 ≤ p) (p2 : p ≤ 2 * M) (k0 : 0 ≤ k) (hs : -k ≤ s) : -(2 * k * M) ≤ p * s := by
  have h1 := Rat.mul_le_mul_of_nonneg_left hs p0
  have h2 := Rat.mul_le_mul_of_nonneg_left p2 k0
  grind
theorem part_lo {p q s X a b M : Rat} (M0 : 0 ≤ M) (p0 : 0 ≤ p) (p2 : p ≤ 2 * M) (q0 : 0 ≤ q) (q2 : q ≤ 2 * M) (s0 : 188 / 10000000000 ≤ s) (c : Nr (s * X - (p * a + q * b)) (6 * (1 / 10000000000000000000) * M)) (ha : -(1 / 200000000000000000000) ≤ a) (hb : -(1 / 200000000000000000000) ≤ b) : -(1 / 10000000000 * M) ≤ X := by
  refine sign_of (W := 0) M0 s0 ?_ (by decide +kernel)
  obtain ⟨c1, c2⟩ := c
  have k1 := prod_ge p0 p2 (by decide +kernel) ha
  have k2 := prod_ge q0 q2 (by decide +kernel) hb
  generalize p * a = z1 at *
  generalize q * b = z2 at *
  generalize s * X = z3 at *
  clear ha hb c2 p0 q0 p2 q2
  grind
theorem part_hi {p q s Y a b a' b' M : Rat} (M0 : 0 ≤ M) (p0 : 0 ≤ p) (p2 : p ≤ 2 * M) (q0 : 0 ≤ q) (q2 : q ≤ 2 * M) (s0 : 188 / 10000000000 ≤ s) (c : Nr (s * Y - (p * a' + q * b')) (6 * (1 / 10000000000000000000) * M)) (ha : -(1 / 200000000000000000000) ≤ a) (hb : -(1 / 200000000000000000000) ≤ b) (na : Nr (a' + a) (1 / 50000000000000000000)) (nb : Nr (b' + b) (1 / 50000000000000000000)) : Y ≤ 1 / 10000000000 * M := by
  obtain ⟨n1, n2⟩ := na
  obtain ⟨n3, n4⟩ := nb
  obtain ⟨c1, c2⟩ := c
  have h : -(1 / 10000000000 * M) ≤ -Y := by
    refine sign_of (W := 0) M0 s0 ?_ (by decide +kernel)
    have k1 := prod_ge (s := -a') (k := 1 / 40000000000000000000) p0 p2 (by decide +kernel) (by grind)
    have k2 := prod_ge (s := -b') (k := 1 / 40000000000000000000) q0 q2 (by decide +kernel) (by grind)
    have e1 : p * -a' = -(p * a') := by grind
    have e2 : q * -b' = -(q * b') := by grind
    have e3 : s * -Y = -(s * Y) := by grind
    rw [e1] at k1
    rw [e2] at k2
    rw [e3]
    generalize p * a' = z1 at *
    generalize q * b' = z2 at *
    generalize s * Y = z3 at *
    clear ha hb c1 p0 q0 p2 q2 n1 n2 n3 n4 e1 e2 e3
    grind
  clear c1 c2
  grind
theorem part_dot {p q s U V a b a' b' a2 b2 M : Rat} (M0 : 0 ≤ M) (p0 : 0 ≤ p) (p2 : p ≤ 2 * M) (q0 : 0 ≤ q) (q2 : q ≤ 2 * M) (s0 : 188 / 10000000000 ≤ s) (c : Nr (s * U - (p * a + q * b)) (6 * (1 / 10000000000000000000) * M)) (d : Nr (s * V - (p * a' + q * b')) (6 * (1 / 10000000000000000000) * M)) (ha : -(1 / 500000000000000000) ≤ a + a2) (hb : -(1 / 500000000000000000) ≤ b + b2) (na : Nr (a' - a2) (1 / 50000000000000000000)) (nb : Nr (b' - b2) (1 / 50000000000000000000)) : -(1 / 1000000000 * M) ≤ U + V := by
  obtain ⟨n1, n2⟩ := na
  obtain ⟨n3, n4⟩ := nb
  obtain ⟨c1, c2⟩ := c
  obtain ⟨d1, d2⟩ := d
  refine sign_of (W := 0) M0 s0 ?_ (by decide +kernel)
  have k1 := prod_ge (s := a + a') (k := 1 / 300000000000000000) p0 p2 (by decide +kernel) (by grind)
  have k2 := prod_ge (s := b + b') (k := 1 / 300000000000000000) q0 q2 (by decide +kernel) (by grind)
  have e1 : p * (a + a') = p * a + p * a' := by grind
  have e2 : q * (b + b') = q * b + q * b' := by grind
  have e3 : s * (U + V) = s * U + s * V := by grind
  rw [e1] at k1
  rw [e2] at k2
  rw [e3]
  generalize p * a = z1 at *
  generalize q * b = z2 at *
  generalize p * a' = z4 at *
  generalize q * b' = z5 at *
  generalize s * U = z3 at *
  generalize s * V = z6 at *
  clear ha hb p0 q0 p2 q2 n1 n2 n3 n4 e1 e2 e3 c2 d2
  grind
theorem nn_of {c m : Rat} (m0 : 0 ≤ m) (h : c ≤ -m) : 0 ≤ -c := by grind
theorem nn2_of {c M : Rat} (h : -(2 * M) ≤ c) : -c ≤ 2 * M := by grind
theorem C_pair {a b : Int} (a0 : 0 ≤ a) (b0 : 0 ≤ b) (h : a + b ≤ 500000000000000) : -(1 / 500000000000000000) ≤ C a + C b := by
  have k := C_dec a0 (show a ≤ 500000000000000 - b by omega) (by omega)
  obtain ⟨⟨h1, h2⟩, _⟩ := half_minus b
  generalize C (500000000000000 - b) = x at *
  generalize C a = y at *
  generalize C b = z at *
  grind
/-- A direction between two close angles lies in every cone around them. -/
theorem in_cone {l lo hi : Int} {y x M m : Rat} (M0 : 0 ≤ M) (y1 : -M ≤ y) (y2 : y ≤ M) (x1 : -M ≤ x) (x2 : x ≤ M) (m0 : 0 ≤ m) (b : Btw l (l + 3) y x m) (hl : lo ≤ l) (hh : l + 3 ≤ hi) (hw : hi - lo ≤ 500000000) :
    -(1 / 10000000000 * M) ≤ cr (lo * 1000000) y x ∧ cr (hi * 1000000) y x ≤ 1 / 10000000000 * M ∧ -(1 / 1000000000 * M) ≤ dt (lo * 1000000) y x + dt (hi * 1000000) y x := by
  obtain ⟨_, b2, b3⟩ := b
  obtain ⟨c1, c2⟩ := cone l (lo * 1000000) y1 y2 x1 x2
  obtain ⟨c3, c4⟩ := cone l (hi * 1000000) y1 y2 x1 x2
  obtain ⟨p1, p2⟩ := cr_bound (a := l * 1000000) y1 y2 x1 x2
  obtain ⟨q1, q2⟩ := cr_bound (a := (l + 3) * 1000000) y1 y2 x1 x2
  have p0 : 0 ≤ cr (l * 1000000) y x := Rat.le_trans m0 b2
  have q0 := nn_of m0 b3
  have q2' := nn2_of q1
  have s1 := S_half (a := (l + 3) * 1000000 - lo * 1000000) (by omega) (by omega)
  have s2 := S_half (a := l * 1000000 - lo * 1000000) (by omega) (by omega)
  have s3 := S_half (a := hi * 1000000 - (l + 3) * 1000000) (by omega) (by omega)
  have s4 := S_half (a := hi * 1000000 - l * 1000000) (by omega) (by omega)
  have n3 := SC_neg (hi * 1000000 - (l + 3) * 1000000)
  have n4 := SC_neg (hi * 1000000 - l * 1000000)
  rw [show -(hi * 1000000 - (l + 3) * 1000000) = (l + 3) * 1000000 - hi * 1000000 by omega] at n3
  rw [show -(hi * 1000000 - l * 1000000) = l * 1000000 - hi * 1000000 by omega] at n4
  have g1 := C_pair (a := (l + 3) * 1000000 - lo * 1000000) (b := hi * 1000000 - (l + 3) * 1000000) (by omega) (by omega) (by omega)
  have g2 := C_pair (a := l * 1000000 - lo * 1000000) (b := hi * 1000000 - l * 1000000) (by omega) (by omega) (by omega)
  obtain ⟨t0, _⟩ := S_three
  exact ⟨part_lo M0 p0 p2 q0 q2' t0 c1 s1 s2, part_hi M0 p0 p2 q0 q2' t0 c3 s3 s4 n3.1 n4.1, part_dot M0 p0 p2 q0 q2' t0 c2 c4 g1 g2 n3.2 n4.2⟩
end Go.Proofs.Ytelcegpaakbppaa.ArcT
