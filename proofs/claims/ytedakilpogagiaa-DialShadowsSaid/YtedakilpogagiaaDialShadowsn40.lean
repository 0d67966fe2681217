/- InArc and InArcSin of the reference: what lies in a cone is found to lie there. -/
import Derived.Test.YtedakilpogagiaaDialShadowsn38
namespace Go.Proofs.Ytedakilpogagiaa.InArcT
open Go.RowKit YtedakilpogagiaaW.PrintWords YtedakilpogagiaaW.PrintLast YtedakilpogagiaaW.PrintMore Opn PAll Base Turn Fix Oct OctT SinT RefT Circ Over Units Cone Arcs ArcT
set_option linter.unusedVariables false
set_option linter.unusedSimpArgs false
theorem mul_near {c y : Int} {w : Rat} (c1 : -1152921504608446976 ≤ c) (c2 : c ≤ 1152921504608446976) (y1 : -1200000000000000000 ≤ y) (y2 : y ≤ 1200000000000000000) (e1 : -1600000 ≤ (c : Rat) - u * w) (e2 : (c : Rat) - u * w ≤ 1600000) :
  ephemerisref2_Mul.f c y = some (rm c y) ∧ -1210000000000000000 ≤ rm c y ∧ rm c y ≤ 1210000000000000000 ∧ -1700000 ≤ (rm c y : Rat) - w * (y : Rat) ∧ (rm c y : Rat) - w * (y : Rat) ≤ 1700000 := by
 obtain ⟨f1, f2⟩ := rm_tells c y
 have hb : -(1152921504608446976 * 1200000000000000000) ≤ c * y ∧ c * y ≤ 1152921504608446976 * 1200000000000000000 := by
  rcases Int.lt_or_le y 0 with n | n
  ·have k1 := Int.mul_le_mul_of_nonneg_right c1 (show 0 ≤ -y by omega)
   have k2 := Int.mul_le_mul_of_nonneg_right c2 (show 0 ≤ -y by omega)
   simp only [Int.mul_neg] at k1 k2
   constructor <;> omega
  ·have k1 := Int.mul_le_mul_of_nonneg_right c1 n
   have k2 := Int.mul_le_mul_of_nonneg_right c2 n
   constructor <;> omega
 refine ⟨ref_mul_ok (by omega) (by omega) (by omega) (by omega), by omega, by omega, ?_⟩
 have f1 := clt f1
 have f2 := clt f2
 push_cast at f1 f2
 have y1' := cle y1
 have y2' := cle y2
 have z1 : ((-1200000000000000000 : Int) : Rat) = -1200000000000000000 := rfl
 have z2 : ((1200000000000000000 : Int) : Rat) = 1200000000000000000 := rfl
 rw [z1] at y1'; rw [z2] at y2'
 obtain ⟨p1, p2⟩ := abs_mul e1 e2 y1' y2'
 have e : ((c : Rat) - u * w) * (y : Rat) = (c : Rat) * (y : Rat) - 1152921504606846976 * (w * (y : Rat)) := by rw [u_eq]; grind
 rw [e] at p1 p2
 generalize (c : Rat) * (y : Rat) = P at *
 generalize w * (y : Rat) = W at *
 generalize (rm c y : Rat) = R at *
 clear e hb y1' y2' e1 e2
 constructor <;> grind
theorem inarc_ev {A B y x : Int} (a0 : 0 ≤ A) (a1 : A < 1000000000) (ab : A ≤ B) (w : B - A ≤ 400000000) (y1 : -1200000000000000000 ≤ y) (y2 : y ≤ 1200000000000000000) (x1 : -1200000000000000000 ≤ x) (x2 : x ≤ 1200000000000000000)
  (h1 : -2100000000 ≤ cr (A * 1000000) (y : Rat) (x : Rat)) (h2 : cr (B * 1000000) (y : Rat) (x : Rat) ≤ 2100000000) (h3 : -2100000000 ≤ dt (A * 1000000) (y : Rat) (x : Rat) + dt (B * 1000000) (y : Rat) (x : Rat)) : Ev (fun k => ephemerisref2_InArc.f k A B y x) true := by
 obtain ⟨sl, cl, e1, ⟨s1, s2⟩, ⟨s3, s4⟩, ⟨s5, s6⟩, s7, s8⟩ := sincos_ev (a := A % 1000000000 * 1000000) (by omega)
 obtain ⟨sh, ch, e2, ⟨t1, t2⟩, ⟨t3, t4⟩, ⟨t5, t6⟩, t7, t8⟩ := sincos_ev (a := B % 1000000000 * 1000000) (by omega)
 rw [S_per (a := A % 1000000000 * 1000000) (b := A * 1000000) (by omega)] at s1 s2
 rw [C_per (a := A % 1000000000 * 1000000) (b := A * 1000000) (by omega)] at s3 s4
 rw [S_per (a := B % 1000000000 * 1000000) (b := B * 1000000) (by omega)] at t1 t2
 rw [C_per (a := B % 1000000000 * 1000000) (b := B * 1000000) (by omega)] at t3 t4
 obtain ⟨m1, b1, b2, n1, n2⟩ := mul_near s7 s8 y1 y2 s3 s4
 obtain ⟨m2, b3, b4, n3, n4⟩ := mul_near s5 s6 x1 x2 s1 s2
 obtain ⟨m3, b5, b6, n5, n6⟩ := mul_near t5 t6 x1 x2 t1 t2
 obtain ⟨m4, b7, b8, n7, n8⟩ := mul_near t7 t8 y1 y2 t3 t4
 obtain ⟨m5, b9, b10, n9, n10⟩ := mul_near s7 s8 x1 x2 s3 s4
 obtain ⟨m6, b11, b12, n11, n12⟩ := mul_near s5 s6 y1 y2 s1 s2
 obtain ⟨m7, b13, b14, n13, n14⟩ := mul_near t7 t8 x1 x2 t3 t4
 obtain ⟨m8, b15, b16, n15, n16⟩ := mul_near t5 t6 y1 y2 t1 t2
 unfold cr at h1 h2
 unfold dt at h3
 clear s1 s2 s3 s4 t1 t2 t3 t4
 generalize C (A * 1000000) * (y : Rat) = p1 at *
 generalize S (A * 1000000) * (x : Rat) = p2 at *
 generalize S (B * 1000000) * (x : Rat) = p3 at *
 generalize C (B * 1000000) * (y : Rat) = p4 at *
 generalize C (A * 1000000) * (x : Rat) = p5 at *
 generalize S (A * 1000000) * (y : Rat) = p6 at *
 generalize C (B * 1000000) * (x : Rat) = p7 at *
 generalize S (B * 1000000) * (y : Rat) = p8 at *
 generalize rm cl y = r1 at *
 generalize rm sl x = r2 at *
 generalize rm sh x = r3 at *
 generalize rm ch y = r4 at *
 generalize rm cl x = r5 at *
 generalize rm sl y = r6 at *
 generalize rm ch x = r7 at *
 generalize rm sh y = r8 at *
 have g1 : -2147483648 ≤ r1 - r2 := by
  refine int_of_rat ?_
  push_cast
  clear h2 h3 n5 n6 n7 n8 n9 n10 n11 n12 n13 n14 n15 n16
  grind
 have g2 : -2147483648 ≤ r3 - r4 := by
  refine int_of_rat ?_
  push_cast
  clear h1 h3 n1 n2 n3 n4 n9 n10 n11 n12 n13 n14 n15 n16
  grind
 have g3 : -2147483647 ≤ r5 + r6 + r7 + r8 := by
  refine int_of_rat ?_
  push_cast
  clear h1 h2 n1 n2 n3 n4 n5 n6 n7 n8
  grind
 clear h1 h2 h3 n1 n2 n3 n4 n5 n6 n7 n8 n9 n10 n11 n12 n13 n14 n15 n16
 unfold ephemerisref2_InArc.f
 refine Ev.congr (fun k => by rw [Sx.oif_eq, if_neg (by rw [decide_eq_true_eq]; omega), Sx.oif_eq, if_neg (by rw [decide_eq_true_eq]; omega), i64_w (B - A), w64 (x := B - A) (by omega) (by omega), Sx.oif_eq, if_neg (by rw [decide_eq_true_eq]; omega), Int.tmod_eq_emod_of_nonneg a0, Int.tmod_eq_emod_of_nonneg (show 0 ≤ B by omega), i64_w, i64_w, w64 (x := A % 1000000000 * 1000000) (by omega) (by omega), w64 (x := B % 1000000000 * 1000000) (by omega) (by omega)]) ?_
 refine Ev.congr (fun k => Sx.ob_eq _ _) (ev_bind e1 (Ev.congr (fun k => Sx.ob_eq _ _) (ev_bind e2 (ev_some 0 fun k => ?_))))
 simp only [Sx.ob_eq, Sx.oif_eq, i64_w, decide_eq_true_eq]
 rw [m1, Option.bind_some, m2, Option.bind_some, w64 (x := r1 - r2) (by omega) (by omega), if_pos (show r1 - r2 ≥ -2147483648 from g1), m3, Option.bind_some, m4, Option.bind_some, w64 (x := r3 - r4) (by omega) (by omega), if_pos (show r3 - r4 ≥ -2147483648 from g2), m5, Option.bind_some, m6, Option.bind_some, m7, Option.bind_some, m8, Option.bind_some, w64 (x := r5 + r6) (by omega) (by omega), w64 (x := r5 + r6 + r7) (by omega) (by omega), w64 (x := r5 + r6 + r7 + r8) (by omega) (by omega)]
 exact congrArg some (decide_eq_true (by omega))
end Go.Proofs.Ytedakilpogagiaa.InArcT
