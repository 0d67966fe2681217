/- direction, cones of angles, and Arc: the angles of the corners of a box. -/
import Derived.Test.YtmahlfjnejbcnaaTopSeasonsn42
namespace Go.Proofs.Ytmahlfjnejbcnaa.Arcs
open Go.RowKit YtmahlfjnejbcnaaW.PrintWords YtmahlfjnejbcnaaW.PrintLast YtmahlfjnejbcnaaW.PrintMore Opn PAll Base Turn Fix Oct OctT SinT RefT Circ Over Units Acute Cone
set_option linter.unusedVariables false
set_option linter.unusedSimpArgs false
theorem near_pair {c c' s s' y x M e : Rat} (h1 : -e ≤ c - c') (h2 : c - c' ≤ e) (h3 : -e ≤ s - s') (h4 : s - s' ≤ e) (y1 : -M ≤ y) (y2 : y ≤ M) (x1 : -M ≤ x) (x2 : x ≤ M) : -(2 * (e * M)) ≤ (c * y - s * x) - (c' * y - s' * x) ∧ (c * y - s * x) - (c' * y - s' * x) ≤ 2 * (e * M) := by
 obtain ⟨p1, p2⟩ := abs_mul h1 h2 y1 y2
 obtain ⟨p3, p4⟩ := abs_mul h3 h4 x1 x2
 have e1 : (c * y - s * x) - (c' * y - s' * x) = (c - c') * y - (s - s') * x := by grind
 rw [e1]
 generalize (c - c') * y = p at *
 generalize (s - s') * x = q at *
 generalize e * M = z at *
 clear e1 h1 h2 h3 h4
 constructor <;> grind
theorem quarter_minus (z : Int) : (-(1 / 1000000000000000000) ≤ C (250000000000000 - z) - S z ∧ C (250000000000000 - z) - S z ≤ 1 / 1000000000000000000) ∧ (-(1 / 1000000000000000000) ≤ S (250000000000000 - z) - C z ∧ S (250000000000000 - z) - C z ≤ 1 / 1000000000000000000) := by
 obtain ⟨⟨a1, a2⟩, ⟨a3, a4⟩⟩ := quarter_at (-z)
 obtain ⟨⟨b1, b2⟩, ⟨b3, b4⟩⟩ := SC_neg z
 rw [show -z + 250000000000000 = 250000000000000 - z by omega] at a1 a2 a3 a4
 generalize S (250000000000000 - z) = x1 at *
 generalize C (250000000000000 - z) = x2 at *
 generalize S (-z) = x3 at *
 generalize C (-z) = x4 at *
 generalize S z = x5 at *
 generalize C z = x6 at *
 refine ⟨⟨?_, ?_⟩, ⟨?_, ?_⟩⟩ <;> grind
theorem half_minus (z : Int) : (-(1 / 1000000000000000000) ≤ C (500000000000000 - z) - -C z ∧ C (500000000000000 - z) - -C z ≤ 1 / 1000000000000000000) ∧ (-(1 / 1000000000000000000) ≤ S (500000000000000 - z) - S z ∧ S (500000000000000 - z) - S z ≤ 1 / 1000000000000000000) := by
 obtain ⟨⟨a1, a2⟩, ⟨a3, a4⟩⟩ := quarter_at (250000000000000 - z)
 obtain ⟨⟨b1, b2⟩, ⟨b3, b4⟩⟩ := quarter_at (-z)
 obtain ⟨⟨d1, d2⟩, ⟨d3, d4⟩⟩ := SC_neg z
 rw [show 250000000000000 - z + 250000000000000 = 500000000000000 - z by omega] at a1 a2 a3 a4
 rw [show -z + 250000000000000 = 250000000000000 - z by omega] at b1 b2 b3 b4
 generalize S (500000000000000 - z) = x1 at *
 generalize C (500000000000000 - z) = x2 at *
 generalize S (250000000000000 - z) = x3 at *
 generalize C (250000000000000 - z) = x4 at *
 generalize S (-z) = x5 at *
 generalize C (-z) = x6 at *
 generalize S z = x7 at *
 generalize C z = x8 at *
 refine ⟨⟨?_, ?_⟩, ⟨?_, ?_⟩⟩ <;> grind
theorem minus_pair (z : Int) : (-(1 / 1000000000000000000) ≤ C (-z) - C z ∧ C (-z) - C z ≤ 1 / 1000000000000000000) ∧ (-(1 / 1000000000000000000) ≤ S (-z) - -S z ∧ S (-z) - -S z ≤ 1 / 1000000000000000000) := by
 obtain ⟨⟨d1, d2⟩, ⟨d3, d4⟩⟩ := SC_neg z
 generalize S (-z) = x5 at *
 generalize C (-z) = x6 at *
 generalize S z = x7 at *
 generalize C z = x8 at *
 refine ⟨⟨?_, ?_⟩, ⟨?_, ?_⟩⟩ <;> grind
section
variable {y x M : Rat} (y1 : -M ≤ y) (y2 : y ≤ M) (x1 : -M ≤ x) (x2 : x ≤ M) (z : Int)
include y1 y2 x1 x2
theorem cr_quarter : -(1 / 100000000000000000 * M) ≤ cr (250000000000000 - z) y x + cr z x y ∧ cr (250000000000000 - z) y x + cr z x y ≤ 1 / 100000000000000000 * M := by
 obtain ⟨⟨a1, a2⟩, ⟨a3, a4⟩⟩ := quarter_minus z
 have h := near_pair a1 a2 a3 a4 y1 y2 x1 x2
 unfold cr
 have M0 : 0 ≤ M := by grind
 generalize C (250000000000000 - z) * y - S (250000000000000 - z) * x = p at *
 have e : S z * y - C z * x = -(C z * x - S z * y) := by grind
 rw [e] at h
 generalize C z * x - S z * y = q at *
 clear a1 a2 a3 a4 e
 constructor <;> grind
theorem cr_half : -(1 / 100000000000000000 * M) ≤ cr (500000000000000 - z) y x + cr z y (-x) ∧ cr (500000000000000 - z) y x + cr z y (-x) ≤ 1 / 100000000000000000 * M := by
 obtain ⟨⟨a1, a2⟩, ⟨a3, a4⟩⟩ := half_minus z
 have h := near_pair a1 a2 a3 a4 y1 y2 x1 x2
 unfold cr
 have M0 : 0 ≤ M := by grind
 generalize C (500000000000000 - z) * y - S (500000000000000 - z) * x = p at *
 have e2 : -C z * y - S z * x = -(C z * y + S z * x) := by grind
 have e3 : C z * y - S z * -x = C z * y + S z * x := by grind
 rw [e2] at h
 rw [e3]
 generalize C z * y + S z * x = q at *
 clear a1 a2 a3 a4 e2 e3
 constructor <;> grind
theorem cr_minus : -(1 / 100000000000000000 * M) ≤ cr (-z) y x + cr z (-y) x ∧ cr (-z) y x + cr z (-y) x ≤ 1 / 100000000000000000 * M := by
 obtain ⟨⟨a1, a2⟩, ⟨a3, a4⟩⟩ := minus_pair z
 have h := near_pair a1 a2 a3 a4 y1 y2 x1 x2
 unfold cr
 have M0 : 0 ≤ M := by grind
 generalize C (-z) * y - S (-z) * x = p at *
 have e2 : C z * y - -S z * x = C z * y + S z * x := by grind
 have e3 : C z * -y - S z * x = -(C z * y + S z * x) := by grind
 rw [e2] at h
 rw [e3]
 generalize C z * y + S z * x = q at *
 clear a1 a2 a3 a4 e2 e3
 constructor <;> grind
end
def Btw (l h : Int) (y x m : Rat) : Prop := h = l + 3 ∧ m ≤ cr (l * 1000000) y x ∧ cr (h * 1000000) y x ≤ -m
theorem btw_less {l h : Int} {y x m m' : Rat} (b : Btw l h y x m) (hm : m' ≤ m) : Btw l h y x m' := ⟨b.1, Rat.le_trans hm b.2.1, Rat.le_trans b.2.2 (Rat.neg_le_neg hm)⟩
theorem le_plain {a b p M k k' : Rat} (h : -(1 / 100000000000000000 * M) ≤ a + b) (hb : b ≤ -(k * M)) (M0 : 0 ≤ M) (hk : k' + 1 / 100000000000000000 ≤ k) : k' * M ≤ a := by
 have := Rat.mul_le_mul_of_nonneg_left hk M0
 grind
theorem ge_plain {a b p M k k' : Rat} (h : a + b ≤ 1 / 100000000000000000 * M) (hb : k * M ≤ b) (M0 : 0 ≤ M) (hk : k' + 1 / 100000000000000000 ≤ k) : a ≤ -(k' * M) := by
 have := Rat.mul_le_mul_of_nonneg_left hk M0
 grind
theorem btw_quarter {n : Int} {a b : Rat} (a0 : 0 ≤ a) (b0 : 0 ≤ b) (ba : b ≤ a) (t1 : 2 / 1000000000 * a ≤ cr ((n - 1) * 1000000) b a) (t2 : cr ((n + 2) * 1000000) b a ≤ -(2 / 1000000000 * a)) : Btw (250000000 - n - 2) (250000000 - n + 1) a b (199 / 100000000000 * a) := by
 have q1 := cr_quarter (y := a) (x := b) (M := a) (by grind) Rat.le_refl (by grind) ba ((n + 2) * 1000000)
 have q2 := cr_quarter (y := a) (x := b) (M := a) (by grind) Rat.le_refl (by grind) ba ((n - 1) * 1000000)
 rw [show 250000000000000 - (n + 2) * 1000000 = (250000000 - n - 2) * 1000000 by omega] at q1
 rw [show 250000000000000 - (n - 1) * 1000000 = (250000000 - n + 1) * 1000000 by omega] at q2
 exact ⟨by omega, le_plain (p := 0) q1.1 t2 a0 (by decide +kernel), ge_plain (p := 0) q2.2 t1 a0 (by decide +kernel)⟩
theorem btw_half {l h : Int} {y x M : Rat} (M0 : 0 ≤ M) (y1 : -M ≤ y) (y2 : y ≤ M) (x1 : -M ≤ x) (x2 : x ≤ M) (b : Btw l h y (-x) (199 / 100000000000 * M)) : Btw (500000000 - h) (500000000 - l) y x (195 / 100000000000 * M) := by
 obtain ⟨b1, b2, b3⟩ := b
 have q1 := cr_half y1 y2 x1 x2 (h * 1000000)
 have q2 := cr_half y1 y2 x1 x2 (l * 1000000)
 rw [show 500000000000000 - h * 1000000 = (500000000 - h) * 1000000 by omega] at q1
 rw [show 500000000000000 - l * 1000000 = (500000000 - l) * 1000000 by omega] at q2
 exact ⟨by omega, le_plain (p := 0) q1.1 b3 M0 (by decide +kernel), ge_plain (p := 0) q2.2 b2 M0 (by decide +kernel)⟩
theorem btw_minus {l h : Int} {y x M : Rat} (M0 : 0 ≤ M) (y1 : -M ≤ y) (y2 : y ≤ M) (x1 : -M ≤ x) (x2 : x ≤ M) (b : Btw l h (-y) x (195 / 100000000000 * M)) : Btw (-h) (-l) y x (190 / 100000000000 * M) := by
 obtain ⟨b1, b2, b3⟩ := b
 have q1 := cr_minus y1 y2 x1 x2 (h * 1000000)
 have q2 := cr_minus y1 y2 x1 x2 (l * 1000000)
 rw [show -(h * 1000000) = -h * 1000000 by omega] at q1
 rw [show -(l * 1000000) = -l * 1000000 by omega] at q2
 exact ⟨by omega, le_plain (p := 0) q1.1 b3 M0 (by decide +kernel), ge_plain (p := 0) q2.2 b2 M0 (by decide +kernel)⟩
theorem mul_le' {k k' M : Rat} (M0 : 0 ≤ M) (h : k ≤ k') : k * M ≤ k' * M := by
 have := Rat.mul_le_mul_of_nonneg_left h M0
 grind
theorem r0 {a : Int} (h : 0 ≤ a) : 0 ≤ (a : Rat) := cle (a := 0) h
theorem dir_quarter {a b : Int} (a0 : 0 ≤ a) (a1 : a ≤ 1000000000000000000) (b0 : 0 ≤ b) (b1 : b ≤ 1000000000000000000) (nz : a ≠ 0 ∨ b ≠ 0) : ∃ l h M : Int, (∀ x0 x1 r, Ev (fun k => trig_direction.j2 k x0 x1 l h) r → Ev (fun k => trig_direction.j1 k x0 x1 a b) r) ∧ Btw l h (a : Rat) (b : Rat) (199 / 100000000000 * (M : Rat)) ∧ a ≤ M ∧ b ≤ M ∧ 0 < M ∧ (M = a ∨ M = b) ∧ -1 ≤ l ∧ h ≤ 250000002 := by
 by_cases c : a ≤ b
 ·obtain ⟨n, e, n0, n1, t1, t2⟩ := acute_tells a0 c (by omega) b1
  have k := mul_le' (r0 b0) (show (199 / 100000000000 : Rat) ≤ 2 / 1000000000 by decide +kernel)
  refine ⟨n - 1, n + 2, b, ?_, ⟨by omega, Rat.le_trans k t1, Rat.le_trans t2 (Rat.neg_le_neg k)⟩, c, by omega, by omega, Or.inr rfl, by omega, by omega⟩
  intro x0 x1 r hr
  refine ev_step 1 (fun k => by rw [trig_direction.j1, if_pos c]) ?_
  refine ev_bind e ?_
  rw [w64 (x := n - 1) (by omega) (by omega), w64 (x := n + 2) (by omega) (by omega)]
  exact hr
 ·obtain ⟨n, e, n0, n1, t1, t2⟩ := acute_tells b0 (show b ≤ a by omega) (by omega) a1
  refine ⟨250000000 - n - 2, 250000000 - n + 1, a, ?_, btw_quarter (r0 a0) (r0 b0) (cle (show b ≤ a by omega)) t1 t2, by omega, by omega, by omega, Or.inl rfl, by omega, by omega⟩
  intro x0 x1 r hr
  refine ev_step 1 (fun k => by rw [trig_direction.j1, if_neg c]) ?_
  refine ev_bind e ?_
  rw [w64 (x := 250000000 - n) (by omega) (by omega), w64 (x := 250000000 - n - 2) (by omega) (by omega), w64 (x := 250000000 - n + 1) (by omega) (by omega)]
  exact hr
theorem neg_cast (a : Int) : ((-a : Int) : Rat) = -(a : Rat) := by push_cast; rfl
theorem neg_le_cast {a b : Int} (h : -a ≤ b) : -(a : Rat) ≤ (b : Rat) := by rw [← neg_cast]; exact cle h
theorem dir_half {a x : Int} (a0 : 0 ≤ a) (a1 : a ≤ 1000000000000000000) (x1 : -1000000000000000000 ≤ x) (x2 : x ≤ 1000000000000000000) (nz : a ≠ 0 ∨ x ≠ 0) : ∃ l h M : Int, (∀ x0 r, Ev (fun k => if x0 < 0 then (trig_minus.f l h).bind fun bt => some (bt.1, bt.2) else some (l, h)) r → Ev (fun k => trig_direction.j0 k x0 x a x) r) ∧ Btw l h (a : Rat) (x : Rat) (195 / 100000000000 * (M : Rat)) ∧ a ≤ M ∧ -M ≤ x ∧ x ≤ M ∧ 0 < M ∧ (M = a ∨ M = x ∨ M = -x) ∧ -2 ≤ l ∧ h ≤ 500000001 ∧ (0 ≤ x → -1 ≤ l ∧ h ≤ 250000002) := by
 by_cases c : x < 0
 ·obtain ⟨l, h, M, run, b, m1, m2, m3, m4, l1, h1⟩ := dir_quarter (a := a) (b := -x) a0 a1 (by omega) (by omega) (by omega)
  have hl := b.1
  rw [neg_cast] at b
  have b' := btw_half (r0 (show 0 ≤ M by omega)) (Rat.le_trans (Rat.neg_le_neg (r0 (show 0 ≤ M by omega))) (by rw [Rat.neg_zero]; exact r0 a0)) (cle m1) (neg_le_cast (show -M ≤ x by omega)) (cle (show x ≤ M by omega)) b
  refine ⟨500000000 - h, 500000000 - l, M, ?_, b', m1, by omega, by omega, m3, by omega, by omega, by omega, by omega⟩
  intro x0 r hr
  refine ev_step 1 (fun k => by rw [trig_direction.j0, if_pos c, w64 (x := -x) (by omega) (by omega)]) ?_
  refine run x0 x r ?_
  exact ev_step 1 (fun k => by rw [trig_direction.j2, if_pos c, w64 (x := 500000000 - h) (by omega) (by omega), w64 (x := 500000000 - l) (by omega) (by omega)]) hr
 ·obtain ⟨l, h, M, run, b, m1, m2, m3, m4, l1, h1⟩ := dir_quarter (a := a) (b := x) a0 a1 (by omega) (by omega) (by omega)
  refine ⟨l, h, M, ?_, btw_less b (mul_le' (r0 (show 0 ≤ M by omega)) (by decide +kernel)), m1, by omega, m2, m3, by omega, by omega, by omega, by omega⟩
  intro x0 r hr
  refine ev_step 1 (fun k => by rw [trig_direction.j0, if_neg c]) ?_
  refine run x0 x r ?_
  exact ev_step 1 (fun k => by rw [trig_direction.j2, if_neg c]) hr
theorem direction_tells {y x : Int} (y1 : -1000000000000000000 ≤ y) (y2 : y ≤ 1000000000000000000) (x1 : -1000000000000000000 ≤ x) (x2 : x ≤ 1000000000000000000) (hz : y ≠ 0 ∨ x ≠ 0) : ∃ l h M : Int, Ev (fun k => trig_direction.f k y x) (l, h) ∧ Btw l h (y : Rat) (x : Rat) (190 / 100000000000 * (M : Rat)) ∧ -M ≤ y ∧ y ≤ M ∧ -M ≤ x ∧ x ≤ M ∧ 0 < M ∧ (M = y ∨ M = -y ∨ M = x ∨ M = -x) ∧ -500000002 ≤ l ∧ h ≤ 500000002 ∧ (0 ≤ x → -250000002 ≤ l ∧ h ≤ 250000002) := by
 by_cases c : y < 0
 ·obtain ⟨l, h, M, run, b, m1, m2, m3, m4, m5, l1, h1, hp⟩ := dir_half (a := -y) (x := x) (by omega) (by omega) x1 x2 (by omega)
  have hl := b.1
  rw [neg_cast] at b
  have b' := btw_minus (r0 (show 0 ≤ M by omega)) (neg_le_cast (show -M ≤ y by omega)) (cle (show y ≤ M by omega)) (neg_le_cast m2) (cle m3) b
  refine ⟨-h, -l, M, ?_, b', by omega, by omega, m2, m3, m4, by omega, by omega, by omega, fun hx => by have := hp hx; omega⟩
  unfold trig_direction.f
  refine Ev.congr (fun k => by rw [if_pos c, w64 (x := -y) (by omega) (by omega)]) ?_
  refine run y _ (ev_some 0 fun k => ?_)
  rw [if_pos c]
  unfold trig_minus.f
  rw [w64 (x := -h) (by omega) (by omega), w64 (x := -l) (by omega) (by omega), Option.bind_some]
 ·obtain ⟨l, h, M, run, b, m1, m2, m3, m4, m5, l1, h1, hp⟩ := dir_half (a := y) (x := x) (by omega) y2 x1 x2 hz
  refine ⟨l, h, M, ?_, btw_less b (mul_le' (r0 (show 0 ≤ M by omega)) (by decide +kernel)), by omega, m1, m2, m3, m4, by omega, by omega, by omega, fun hx => by have := hp hx; omega⟩
  unfold trig_direction.f
  refine Ev.congr (fun k => if_neg c) ?_
  refine run y _ (ev_some 0 fun k => ?_)
  rw [if_neg c]
end Go.Proofs.Ytmahlfjnejbcnaa.Arcs
