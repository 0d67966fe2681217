/- ArcSin: the angles of sines, out of directions (root, sine). -/
import Derived.Test.YtedakilpogagiaaDialLinesn38
namespace Go.Proofs.Ytedakilpogagiaa.ArcSinT
open Go.RowKit Go.Proofs.YtedakilpogagiaaW.PrintWords Go.Proofs.YtedakilpogagiaaW.PrintLast Go.Proofs.YtedakilpogagiaaW.PrintMore Go.Proofs.Ytedakilpogagiaa.Opn Go.Proofs.Ytedakilpogagiaa.PAll Go.Proofs.Ytedakilpogagiaa.Base Go.Proofs.Ytedakilpogagiaa.Turn Go.Proofs.Ytedakilpogagiaa.Fix Go.Proofs.Ytedakilpogagiaa.Oct Go.Proofs.Ytedakilpogagiaa.OctT Go.Proofs.Ytedakilpogagiaa.SinT Go.Proofs.Ytedakilpogagiaa.RefT Go.Proofs.Ytedakilpogagiaa.Circ Go.Proofs.Ytedakilpogagiaa.Over Go.Proofs.Ytedakilpogagiaa.Units Go.Proofs.Ytedakilpogagiaa.Cone Go.Proofs.Ytedakilpogagiaa.Arcs Go.Proofs.Ytedakilpogagiaa.ArcT Go.Proofs.Ytedakilpogagiaa.InArcT
set_option linter.unusedVariables false
set_option linter.unusedSimpArgs false
theorem small_S {k : Int} (h1 : -4000000 ≤ k) (h2 : k ≤ 4000000) : -(26 / 1000000000) ≤ S k ∧ S k ≤ 26 / 1000000000 ∧ 99 / 100 ≤ C k := by
 have q : kap * ((4000000 : Int) : Rat) + 1 / 1000000000000000000 ≤ 26 / 1000000000 := by decide +kernel
 rcases Int.lt_or_le k 0 with c | c
 ·obtain ⟨a1, a2⟩ := S_lip (a := k) (b := 0) (by omega)
  obtain ⟨b1, b2⟩ := C_lip (a := k) (b := 0) (by omega)
  have m : kap * ((0 - k : Int) : Rat) ≤ kap * ((4000000 : Int) : Rat) := Rat.mul_le_mul_of_nonneg_left (cle (by omega)) (by decide +kernel)
  rw [S_zero] at a1 a2
  rw [C_zero] at b1 b2
  generalize kap * ((0 - k : Int) : Rat) = x at *
  generalize kap * ((4000000 : Int) : Rat) = y at *
  generalize S k = s at *
  generalize C k = c' at *
  refine ⟨?_, ?_, ?_⟩ <;> grind
 ·obtain ⟨a1, a2⟩ := S_lip (a := 0) (b := k) c
  obtain ⟨b1, b2⟩ := C_lip (a := 0) (b := k) c
  have m : kap * ((k - 0 : Int) : Rat) ≤ kap * ((4000000 : Int) : Rat) := Rat.mul_le_mul_of_nonneg_left (cle (by omega)) (by decide +kernel)
  rw [S_zero] at a1 a2
  rw [C_zero] at b1 b2
  generalize kap * ((k - 0 : Int) : Rat) = x at *
  generalize kap * ((4000000 : Int) : Rat) = y at *
  generalize S k = s at *
  generalize C k = c' at *
  refine ⟨?_, ?_, ?_⟩ <;> grind
theorem sides_small {l : Int} {y x M : Rat} (M0 : 0 ≤ M) (y1 : -M ≤ y) (y2 : y ≤ M) (x1 : -M ≤ x) (x2 : x ≤ M) (p0 : 0 ≤ cr (l * 1000000) y x) (q0 : 0 ≤ -cr ((l + 3) * 1000000) y x) : cr (l * 1000000) y x ≤ 1 / 20000000 * M ∧ -cr ((l + 3) * 1000000) y x ≤ 1 / 20000000 * M := by
 obtain ⟨_, d1, d2⟩ := cone l (l * 1000000) y1 y2 x1 x2
 rw [show (l + 3) * 1000000 - l * 1000000 = 3 * 1000000 by omega, show l * 1000000 - l * 1000000 = 0 by omega, C_zero] at d1 d2
 obtain ⟨t1, t2⟩ := S_three
 obtain ⟨_, _, c3⟩ := small_S (k := 3 * 1000000) (by omega) (by omega)
 have db : dt (l * 1000000) y x ≤ 2 * M := by
  obtain ⟨b1, b2, b3, b4⟩ := SC_bound (l * 1000000)
  obtain ⟨e1, e2⟩ := abs_mul b1 b2 x1 x2
  obtain ⟨e3, e4⟩ := abs_mul b3 b4 y1 y2
  unfold dt
  generalize C (l * 1000000) * x = u1 at *
  generalize S (l * 1000000) * y = u2 at *
  clear p0 q0 d1 d2
  grind
 generalize cr (l * 1000000) y x = p at *
 generalize -cr ((l + 3) * 1000000) y x = q at *
 generalize dt (l * 1000000) y x = D at *
 generalize S (3 * 1000000) = s at *
 generalize C (3 * 1000000) = c at *
 have k1 := Rat.mul_le_mul_of_nonneg_left db (show 0 ≤ s by grind)
 have k2 := Rat.mul_le_mul_of_nonneg_left t2 (show 0 ≤ 2 * M by grind)
 have k3 := Rat.mul_le_mul_of_nonneg_left c3 p0
 generalize s * D = z at *
 generalize p * c = v at *
 constructor <;> grind
theorem near_parts {l a : Int} {y x M : Rat} (M0 : 0 ≤ M) (y1 : -M ≤ y) (y2 : y ≤ M) (x1 : -M ≤ x) (x2 : x ≤ M) (p0 : 0 ≤ cr (l * 1000000) y x) (q0 : 0 ≤ -cr ((l + 3) * 1000000) y x) (a1 : l - 1 ≤ a) (a2 : a ≤ l + 4) : -(2 / 10000000 * M) ≤ cr (a * 1000000) y x ∧ cr (a * 1000000) y x ≤ 2 / 10000000 * M ∧ -(1 / 1000000000 * M) ≤ dt (a * 1000000) y x := by
 obtain ⟨p1, q1⟩ := sides_small M0 y1 y2 x1 x2 p0 q0
 obtain ⟨⟨c1, c2⟩, d1, d2⟩ := cone l (a * 1000000) y1 y2 x1 x2
 obtain ⟨s1, s2, s3⟩ := small_S (k := (l + 3) * 1000000 - a * 1000000) (by omega) (by omega)
 obtain ⟨s4, s5, s6⟩ := small_S (k := l * 1000000 - a * 1000000) (by omega) (by omega)
 obtain ⟨t1, t2⟩ := S_three
 generalize cr (l * 1000000) y x = p at *
 generalize -cr ((l + 3) * 1000000) y x = q at *
 generalize cr (a * 1000000) y x = X at *
 generalize dt (a * 1000000) y x = Y at *
 generalize S (3 * 1000000) = s at *
 generalize S ((l + 3) * 1000000 - a * 1000000) = u1 at *
 generalize S (l * 1000000 - a * 1000000) = u2 at *
 generalize C ((l + 3) * 1000000 - a * 1000000) = v1 at *
 generalize C (l * 1000000 - a * 1000000) = v2 at *
 obtain ⟨e1, e2⟩ := abs_mul (a := p) (b := u1) (A := 1 / 20000000 * M) (B := 26 / 1000000000) (by grind) p1 s1 s2
 obtain ⟨e3, e4⟩ := abs_mul (a := q) (b := u2) (A := 1 / 20000000 * M) (B := 26 / 1000000000) (by grind) q1 s4 s5
 have e5 := Rat.mul_nonneg p0 (show 0 ≤ v1 by grind)
 have e6 := Rat.mul_nonneg q0 (show 0 ≤ v2 by grind)
 generalize p * u1 = z1 at *
 generalize q * u2 = z2 at *
 generalize p * v1 = z3 at *
 generalize q * v2 = z4 at *
 clear p0 q0 p1 q1 s1 s2 s3 s4 s5 s6 y1 y2 x1 x2
 refine ⟨?_, ?_, ?_⟩
 ·refine sign_of (W := 0) M0 t1 ?_ (by decide +kernel)
  clear d1 d2
  grind
 ·have : -(2 / 10000000 * M) ≤ -X := by
   refine sign_of (W := 0) (s := s) M0 t1 ?_ (by decide +kernel)
   have e : s * -X = -(s * X) := by grind
   rw [e]
   clear d1 d2
   grind
  grind
 ·refine sign_of (W := 0) M0 t1 ?_ (by decide +kernel)
  clear c1 c2
  grind
theorem C_quarter {a : Int} (h1 : -250000000 ≤ a) (h2 : a ≤ 250000000) : -(1 / 1000000000000) ≤ C (a * 1000000) := by
 have q : -(1 / 1000000000000000000) ≤ C 250000000000000 := by
  have e : C 250000000000000 = cosT n4 := by unfold C; rw [show (250000000000000 : Int) % 1000000000000000 = 250000000000000 by omega, ag_quarter]
  rw [e]
  have := T4.1
  generalize cosT n4 = x at *
  grind
 rcases Int.lt_or_le a 0 with c | c
 ·have d := C_dec (a := -(a * 1000000)) (b := 250000000000000) (by omega) (by omega) (by omega)
  obtain ⟨_, n1, n2⟩ := SC_neg (a * 1000000)
  generalize C (-(a * 1000000)) = x at *
  generalize C (a * 1000000) = y at *
  generalize C 250000000000000 = z at *
  grind
 ·have d := C_dec (a := a * 1000000) (b := 250000000000000) (by omega) (by omega) (by omega)
  generalize C (a * 1000000) = y at *
  generalize C 250000000000000 = z at *
  grind
def cp (a : Int) : Int := mx (-1000000000) (mn 1000000000 a)
end Go.Proofs.Ytedakilpogagiaa.ArcSinT
