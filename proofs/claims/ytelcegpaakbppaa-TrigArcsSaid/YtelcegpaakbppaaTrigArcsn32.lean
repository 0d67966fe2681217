/- TrigArcs: Arc of the program holds the angles of the corners, by the reference's InArc, and is narrow if they are exact. -/
import Derived.Test.YtelcegpaakbppaaTrigArcsn15
import Derived.Test.YtelcegpaakbppaaTrigArcsn31
namespace Go.Proofs.Ytelcegpaakbppaa.Pure
open Go.RowKit Go.Proofs.YtelcegpaakbppaaW.PrintWords Go.Proofs.YtelcegpaakbppaaW.PrintLast Go.Proofs.YtelcegpaakbppaaW.PrintMore Go.Proofs.Ytelcegpaakbppaa.Opn Go.Proofs.Ytelcegpaakbppaa.PAll Go.Proofs.Ytelcegpaakbppaa.Base Go.Proofs.Ytelcegpaakbppaa.Over Go.Proofs.Ytelcegpaakbppaa.Units Go.Proofs.Ytelcegpaakbppaa.Arcs Go.Proofs.Ytelcegpaakbppaa.ArcT Go.Proofs.Ytelcegpaakbppaa.InArcT
set_option linter.unusedVariables false
set_option linter.unusedSimpArgs false
theorem arcs_works : Ev (fun k => ephemerislaw2_trigWorks.f k) true := Ev.of ephemerislaw2_trigWorks.mono (k := 120) (by decide +kernel)
theorem none_at (e : Int) : ephemerislaw2_none.f 0 0 e e = some true := by unfold ephemerislaw2_none.f; simp
theorem two_ev (a b c d : Int) : Ev (fun k => ephemerisref2_TwoErr.f k a b c d) (if sp a b = 0 then sp c d else sp a b) := by
  unfold ephemerisref2_TwoErr.f
  refine ev_bind (spanErr_ev a b) ?_
  by_cases h : sp a b = 0
  · rw [if_pos h]
    refine Ev.congr (fun k => if_pos h) ?_
    exact ev_bind (spanErr_ev c d) (ev_some 0 fun k => rfl)
  · rw [if_neg h]
    exact Ev.congr (fun k => if_neg h) (ev_some 0 fun k => rfl)
theorem beyond58 (a : Int) : ephemerislaw2_beyond.f a 288230376151711744 = some (decide (a < -288230376151711744 ∨ a > 288230376151711744)) := by
  unfold ephemerislaw2_beyond.f
  rw [w64 (x := -288230376151711744) (by omega) (by omega)]
  by_cases c : a < -288230376151711744
  · rw [if_pos c, decide_eq_true (Or.inl c)]
  · rw [if_neg c]
    by_cases d : a > 288230376151711744
    · rw [decide_eq_true d, decide_eq_true (Or.inr d)]
    · rw [decide_eq_false d, decide_eq_false (by omega)]
/-- A corner, doubled until it is large. -/
theorem l2_ev {y0 y1 x0 x1 A B p q : Int} {ys xs : List Int} {i n k0 m : Int} {r : Bool} (nz : p ≠ 0 ∨ q ≠ 0) (hin : ∀ z, 0 < z → -1200000000000000000 ≤ p * z → p * z ≤ 1200000000000000000 → -1200000000000000000 ≤ q * z → q * z ≤ 1200000000000000000 → Ev (fun k => ephemerisref2_InArc.f k A B (p * z) (q * z)) true)
    (next : Ev (fun k => ephemerislaw2_TrigArcs.l1 k p ys n i xs m (wrap64 (k0 + 1)) y0 y1 x0 x1 A B) r) : ∀ (d : Nat) (z : Int), 0 < z → z * 2 ^ d ≥ 576460752303423488 → -1200000000000000000 ≤ p * z → p * z ≤ 1200000000000000000 → -1200000000000000000 ≤ q * z → q * z ≤ 1200000000000000000 →
      Ev (fun k => ephemerislaw2_TrigArcs.l2 k p (p * z) (q * z) ys n i xs m k0 y0 y1 x0 x1 A B) r
  | d, z, z0, hd, p1, p2, q1, q2 => by
    have hi := hin z z0 p1 p2 q1 q2
    by_cases c : p * z < -288230376151711744 ∨ p * z > 288230376151711744
    · refine ev_step 1 (fun k => by rw [ephemerislaw2_TrigArcs.l2, beyond58, decide_eq_true c, Option.bind_some, if_pos rfl]) ?_
      refine ev_bind hi ?_
      exact Ev.congr (fun k => if_pos rfl) next
    · by_cases c2 : q * z < -288230376151711744 ∨ q * z > 288230376151711744
      · refine ev_step 1 (fun k => by rw [ephemerislaw2_TrigArcs.l2, beyond58, decide_eq_false c, Option.bind_some, if_neg (by simp), beyond58, decide_eq_true c2, Option.bind_some, if_pos rfl]) ?_
        refine ev_bind hi ?_
        exact Ev.congr (fun k => if_pos rfl) next
      · match d, hd with
        | 0, hd =>
          exfalso
          simp only [Int.pow_zero, Int.mul_one] at hd
          have big : ∀ a : Int, a ≠ 0 → a * z ≤ -z ∨ z ≤ a * z := by
            intro a ha
            rcases Int.lt_or_le a 0 with h | h
            · left
              have := Int.mul_le_mul_of_nonneg_right (show a ≤ -1 by omega) (show 0 ≤ z by omega)
              omega
            · right
              have := Int.mul_le_mul_of_nonneg_right (show 1 ≤ a by omega) (show 0 ≤ z by omega)
              omega
          rcases nz with h | h
          · have := big p h; omega
          · have := big q h; omega
        | d + 1, hd =>
          have e1 : p * (2 * z) = 2 * (p * z) := Int.mul_left_comm _ _ _
          have e2 : q * (2 * z) = 2 * (q * z) := Int.mul_left_comm _ _ _
          have ih := l2_ev nz hin next d (2 * z) (by omega) (by rw [Int.pow_succ, Int.mul_comm (2 ^ d) 2, ← Int.mul_assoc, Int.mul_comm z 2] at hd; exact hd) (by omega) (by omega) (by omega) (by omega)
          rw [e1, e2] at ih
          exact ev_step 1 (fun k => by rw [ephemerislaw2_TrigArcs.l2, beyond58, decide_eq_false c, Option.bind_some, if_neg (by simp), beyond58, decide_eq_false c2, Option.bind_some, if_neg (by simp), w64 (x := 2 * (p * z)) (by omega) (by omega), w64 (x := 2 * (q * z)) (by omega) (by omega)]) ih
theorem pow59 : (1 : Int) * 2 ^ 59 ≥ 576460752303423488 := by decide
/-- One of the four corners. -/
theorem corner_ev {y0 y1 x0 x1 lo hi l p q : Int} {ys xs : List Int} {i n k0 k1 m : Int} {r : Bool} (A : At l p q) (h1 : lo ≤ l) (h2 : l + 3 ≤ hi) (w : hi - lo ≤ 400000000) (nz : p ≠ 0 ∨ q ≠ 0) (p1 : -1000000000000000000 ≤ p) (p2 : p ≤ 1000000000000000000) (q1 : -1000000000000000000 ≤ q) (q2 : q ≤ 1000000000000000000)
    (hk : 0 ≤ k0) (hm : m = 2) (hx : (xs.length : Int) = m) (hk2 : k0 < 2) (hr : rd xs k0 = q) (ek : wrap64 (k0 + 1) = k1)
    (next : Ev (fun k => ephemerislaw2_TrigArcs.l1 k p ys n i xs m k1 y0 y1 x0 x1 (lo % 1000000000) (hi - lo / 1000000000 * 1000000000)) r) :
    Ev (fun k => ephemerislaw2_TrigArcs.l1 k p ys n i xs m k0 y0 y1 x0 x1 (lo % 1000000000) (hi - lo / 1000000000 * 1000000000)) r := by
  rw [← ek] at next
  have h := l2_ev (k0 := k0) nz (fun z z0 a b c d => corner_in A h1 h2 w z0 a b c d) next 59 1 (by omega) pow59 (by omega) (by omega) (by omega) (by omega)
  rw [Int.mul_one, Int.mul_one] at h
  refine ev_step 1 (fun k => ?_) h
  rw [ephemerislaw2_TrigArcs.l1, if_pos (by omega), if_pos hk, if_pos (by omega), hr]
theorem row_ev {y0 y1 x0 x1 lo hi la lb p : Int} {i i' : Int} {r : Bool} (A : At la p x0) (B : At lb p x1) (h1 : lo ≤ la) (h2 : la + 3 ≤ hi) (h3 : lo ≤ lb) (h4 : lb + 3 ≤ hi) (w : hi - lo ≤ 400000000) (nz : p ≠ 0 ∨ x0 ≠ 0) (nz2 : p ≠ 0 ∨ x1 ≠ 0) (p1 : -1000000000000000000 ≤ p) (p2 : p ≤ 1000000000000000000) (q1 : -1000000000000000000 ≤ x0) (q2 : x0 ≤ 1000000000000000000) (q3 : -1000000000000000000 ≤ x1) (q4 : x1 ≤ 1000000000000000000)
    (hi0 : 0 ≤ i) (hi2 : i < 2) (hr : rd [y0, y1] i = p) (ei : wrap64 (i + 1) = i')
    (next : Ev (fun k => ephemerislaw2_TrigArcs.l0 k [y0, y1] ((([y0, y1] : List Int)).length : Int) i' y0 y1 x0 x1 (lo % 1000000000) (hi - lo / 1000000000 * 1000000000)) r) :
    Ev (fun k => ephemerislaw2_TrigArcs.l0 k [y0, y1] ((([y0, y1] : List Int)).length : Int) i y0 y1 x0 x1 (lo % 1000000000) (hi - lo / 1000000000 * 1000000000)) r := by
  have hlen : ((([y0, y1] : List Int)).length : Int) = 2 := rfl
  refine ev_step 1 (fun k => by rw [ephemerislaw2_TrigArcs.l0, if_pos (by omega), if_pos hi0, if_pos (by omega), hr, Option.bind_some]) ?_
  refine corner_ev A h1 h2 w nz p1 p2 q1 q2 (by omega) rfl rfl (by omega) rfl (w64 (by omega) (by omega) : wrap64 (0 + 1) = 0 + 1) ?_
  refine corner_ev B h3 h4 w nz2 p1 p2 q3 q4 (by omega) rfl rfl (by omega) rfl (w64 (by omega) (by omega) : wrap64 (0 + 1 + 1) = 0 + 1 + 1) ?_
  have hlen2 : ((([x0, x1] : List Int)).length : Int) = 2 := rfl
  refine ev_step 1 (fun k => by rw [ephemerislaw2_TrigArcs.l1, if_neg (by omega), ei]) next
theorem TrigArcs : PureX := by
  intro s0 s1 w0 w1
  rcases s0 with ⟨y0, y1⟩
  rcases s1 with ⟨x0, x1⟩
  refine ev_k ?_
  unfold ephemerislaw2_TrigArcs.f
  refine ev_bind arcs_works ?_
  refine Ev.congr (fun k => if_pos rfl) ?_
  show Ev (fun k => (trig_Arc.f k y0 y1 x0 x1).bind _) true
  have t := two_ev y0 y1 x0 x1
  by_cases h : (if sp y0 y1 = 0 then sp x0 x1 else sp y0 y1) = 0
  · have hy : sp y0 y1 = 0 := by
      by_cases c : sp y0 y1 = 0
      · exact c
      · rw [if_neg c] at h; exact h
    have hx : sp x0 x1 = 0 := by rw [if_pos hy] at h; exact h
    rw [h] at t
    obtain ⟨a0, a1, a2⟩ := sp_zero hy
    obtain ⟨b0, b1, b2⟩ := sp_zero hx
    by_cases z : y0 ≤ 0 ∧ 0 ≤ y1 ∧ x0 ≤ 0 ∧ 0 ≤ x1
    · refine ev_bind (arc_open hy hx z) (ev_bind t ?_)
      obtain ⟨z1, z2, z3, z4⟩ := z
      refine Ev.congr (fun k => by rw [if_pos rfl, if_pos z1, if_pos (show y1 ≥ 0 from z2), if_pos z3, decide_eq_true (show x1 ≥ 0 from z4)]) ?_
      exact ev_some 1 fun k => by rw [ephemerislaw2_TrigArcs.j0, if_pos rfl, none_at]; rfl
    · obtain ⟨a, b, c, d, lo, hi, Aa, Ab, Ac, Ad, E, l1, l2, ⟨b3, b4⟩, ⟨c3, c4⟩, ⟨d3, d4⟩, ex, e⟩ := arc_ev hy hx z
      have J : ∀ (tr : Int × Int × Int) (r : Bool), Ev (fun k => ephemerislaw2_TrigArcs.j0 k tr.2.2 false y0 y1 x0 x1 tr.1 tr.2.1) r → Ev (fun k => if y0 ≤ 0 then (if y1 ≥ 0 then (if x0 ≤ 0 then (ephemerislaw2_TrigArcs.j0 k tr.2.2 (decide (x1 ≥ 0)) y0 y1 x0 x1 tr.1 tr.2.1) else (ephemerislaw2_TrigArcs.j0 k tr.2.2 false y0 y1 x0 x1 tr.1 tr.2.1)) else (ephemerislaw2_TrigArcs.j0 k tr.2.2 false y0 y1 x0 x1 tr.1 tr.2.1)) else (ephemerislaw2_TrigArcs.j0 k tr.2.2 false y0 y1 x0 x1 tr.1 tr.2.1)) r := by
        intro tr r hr
        by_cases c1 : y0 ≤ 0
        · by_cases c2 : y1 ≥ 0
          · by_cases c3 : x0 ≤ 0
            · have c4 : decide (x1 ≥ 0) = false := decide_eq_false (by omega)
              exact Ev.congr (fun k => by rw [if_pos c1, if_pos c2, if_pos c3, c4]) hr
            · exact Ev.congr (fun k => by rw [if_pos c1, if_pos c2, if_neg c3]) hr
          · exact Ev.congr (fun k => by rw [if_pos c1, if_neg c2]) hr
        · exact Ev.congr (fun k => by rw [if_neg c1]) hr
      refine ev_bind e (ev_bind t ?_)
      refine Ev.congr (fun k => if_pos rfl) ?_
      refine J _ true ?_
      have E1 := E.la
      have E2 := E.lb
      have E3 := E.lc
      have E4 := E.ld
      have E5 := E.ha
      have E6 := E.hb
      have E7 := E.hc
      have E8 := E.hd
      have E9 := E.lone
      have E10 := E.hone
      by_cases w : hi - lo > 400000000
      · rw [if_pos w]
        refine ev_some 1 fun k => ?_
        rw [ephemerislaw2_TrigArcs.j0, if_neg (by simp), if_neg (show ¬ (11 : Int) = 0 by omega), none_at, Option.bind_some, if_pos rfl]
        by_cases c1 : y0 < y1
        · rw [if_pos c1]
        · rw [if_neg c1]
          refine congrArg some (decide_eq_true ?_)
          rcases Int.lt_or_le x0 x1 with c2 | c2
          · exact c2
          · have := ex (by omega) (by omega)
            omega
      · rw [if_neg w]
        refine ev_step 1 (fun k => by rw [ephemerislaw2_TrigArcs.j0, if_neg (by simp), if_pos rfl, Option.bind_some]) ?_
        simp only
        refine row_ev Aa Ab E1 E5 E2 E6 (by omega) (by omega) (by omega) (by omega) (by omega) (by omega) (by omega) (by omega) (by omega) (by omega) (by omega) rfl (w64 (by omega) (by omega) : wrap64 (0 + 1) = 0 + 1) ?_
        refine row_ev Ac Ad E3 E7 E4 E8 (by omega) (by omega) (by omega) (by omega) (by omega) (by omega) (by omega) (by omega) (by omega) (by omega) (by omega) rfl (w64 (by omega) (by omega) : wrap64 (0 + 1 + 1) = 0 + 1 + 1) ?_
        have hlen : ((([y0, y1] : List Int)).length : Int) = 2 := rfl
        refine ev_some 1 fun k => ?_
        rw [ephemerislaw2_TrigArcs.l0, if_neg (by omega)]
        by_cases c1 : y0 = y1
        · rw [if_pos c1]
          by_cases c2 : x0 = x1
          · rw [if_pos c2, w64 (by omega) (by omega)]
            have := ex c1 c2
            exact congrArg some (decide_eq_true (by omega))
          · rw [if_neg c2]
        · rw [if_neg c1]
  · refine ev_bind (arc_bad h) (ev_bind t (ev_some 0 fun k => ?_))
    rw [if_neg h, none_at]
    rfl
end Go.Proofs.Ytelcegpaakbppaa.Pure
