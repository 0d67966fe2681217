/- TrigOvers: SinOver and CosOver hold the reference's sines and cosines of the bounds and of a number between, and are narrow. -/
import Derived.Test.YtelcegpaakbppaaTrigOversn17
import Derived.Test.YtelcegpaakbppaaTrigOversn27
namespace Go.Proofs.Ytelcegpaakbppaa.Pure
open Go.RowKit Go.Proofs.YtelcegpaakbppaaW.PrintWords Go.Proofs.YtelcegpaakbppaaW.PrintLast Go.Proofs.YtelcegpaakbppaaW.PrintMore Go.Proofs.Ytelcegpaakbppaa.Opn Go.Proofs.Ytelcegpaakbppaa.PAll Go.Proofs.Ytelcegpaakbppaa.Base Go.Proofs.Ytelcegpaakbppaa.Turn Go.Proofs.Ytelcegpaakbppaa.OctT Go.Proofs.Ytelcegpaakbppaa.SinT Go.Proofs.Ytelcegpaakbppaa.RefT Go.Proofs.Ytelcegpaakbppaa.Circ Go.Proofs.Ytelcegpaakbppaa.Over Go.Proofs.Ytelcegpaakbppaa.Units
set_option linter.unusedVariables false
set_option linter.unusedSimpArgs false
theorem overs_works : Ev (fun k => ephemerislaw2_trigWorks.f k) true := Ev.of ephemerislaw2_trigWorks.mono (k := 120) (by decide +kernel)
theorem none_same (e : Int) : ephemerislaw2_none.f 0 0 e e = some true := by unfold ephemerislaw2_none.f; simp
/-- One number of the three. -/
theorem overs_one {lo hi L H L' H' n : Int} (h0 : -1000000000000000000 ≤ lo) (h1 : lo ≤ hi) (h2 : hi ≤ 1000000000000000000) (A : Holds L H lo hi) (B : HoldsC L' H' lo hi) (n0 : lo ≤ n) (n1 : n ≤ hi) {y : List Int} {i i' : Int} (ei : wrap64 (i + 1) = i') (hi0 : 0 ≤ i) (hi1 : i < (y.length : Int)) (hr : rd y i = n) {r : Bool}
    (next : Ev (fun k => ephemerislaw2_TrigOvers.l0 k y (y.length : Int) i' lo hi L H L' H') r) : Ev (fun k => ephemerislaw2_TrigOvers.l0 k y (y.length : Int) i lo hi L H L' H') r := by
  subst ei
  have m := mod_pos (a := n) (b := 1000000000) (by omega) (by omega)
  obtain ⟨a1, a2⟩ := A.tell (n * 1000000) (by omega) (by omega)
  obtain ⟨b1, b2⟩ := B.tell (n * 1000000) (by omega) (by omega)
  obtain ⟨l1, l2⟩ := over_lo_hi A h1
  obtain ⟨m1, m2⟩ := cosover_lo_hi B h1
  have z1 := A.lo1
  have z2 := A.hi1
  have z3 := B.lo1
  have z4 := B.hi1
  obtain ⟨s, c, e, ⟨e1, e2⟩, ⟨e3, e4⟩, ⟨e5, e6⟩, e7, e8⟩ := sincos_ev (a := n % 1000000000 * 1000000) (by omega)
  rw [S_per (a := n % 1000000000 * 1000000) (b := n * 1000000) (by omega)] at e1 e2
  rw [C_per (a := n % 1000000000 * 1000000) (b := n * 1000000) (by omega)] at e3 e4
  have u1 := unit_in (L := L) (H := H) (by omega) (by omega) (by omega) (by omega) (le5 a1) (le5 a2) e1 e2 e5 e6
  have u2 := unit_in (L := L') (H := H') (by omega) (by omega) (by omega) (by omega) (le5' b1) (le5' b2) e3 e4 e7 e8
  refine ev_step 1 (fun k => by rw [ephemerislaw2_TrigOvers.l0, if_pos hi1, if_pos hi0, if_pos hi1, hr, m, Option.bind_some, w64 (x := n % 1000000000 * 1000000) (by omega) (by omega)]) ?_
  refine ev_bind e ?_
  refine Ev.congr (fun k => by rw [u1, Option.bind_some, if_pos rfl, u2, Option.bind_some, if_pos rfl]) next
theorem TrigOvers : PureX := by
  intro s0 a1 wf
  rcases s0 with ⟨lo, hi⟩
  intro w1
  refine ev_k ?_
  unfold ephemerislaw2_TrigOvers.f
  refine ev_bind overs_works ?_
  refine Ev.congr (fun k => if_pos rfl) ?_
  simp only
  by_cases hx : sp lo hi = 0
  · obtain ⟨h0, h1, h2⟩ := sp_zero hx
    have sx := spanErr_ev lo hi
    rw [hx] at sx
    obtain ⟨L, H, e, A⟩ := over_ev h0 h1 h2
    obtain ⟨L', H', e', B⟩ := cosover_ev h0 h1 h2
    refine ev_bind e (ev_bind e' (ev_bind sx ?_))
    have z1 := A.lo1
    have z2 := A.hi1
    obtain ⟨l1, l2⟩ := over_lo_hi A h1
    simp only [if_true]
    refine Ev.congr (fun k => by rw [beyond_no z1 l1, Option.bind_some, if_neg (by simp), beyond_no l2 z2, Option.bind_some]) ?_
    obtain ⟨j, hj, j0, j1⟩ := at_ok (k := a1) (n := hi - lo + 1) (by omega) (by omega)
    refine ev_step 1 (fun k => by rw [ephemerislaw2_TrigOvers.j0, if_neg (by simp), w64 (x := hi - lo) (by omega) (by omega), w64 (x := hi - lo + 1) (by omega) (by omega), hj, Option.bind_some, Option.bind_some, w64 (x := lo + j) (by omega) (by omega)]) ?_
    have W := A.wide
    have W' := B.wide
    refine overs_one h0 h1 h2 A B (i' := 1) (n := lo) (by omega) (by omega) (w64 (by omega) (by omega)) (by omega) (show (0 : Int) < 3 by omega) rfl ?_
    refine overs_one h0 h1 h2 A B (i' := 2) (n := hi) (by omega) (by omega) (w64 (by omega) (by omega)) (by omega) (show (1 : Int) < 3 by omega) rfl ?_
    refine overs_one h0 h1 h2 A B (i' := 3) (n := lo + j) (by omega) (by omega) (w64 (by omega) (by omega)) (by omega) (show (2 : Int) < 3 by omega) rfl ?_
    refine ev_some 1 fun k => ?_
    rw [ephemerislaw2_TrigOvers.l0, if_neg (show ¬ (3 : Int) < (([lo, hi, lo + j] : List Int).length : Int) from Int.lt_irrefl 3), w64 (x := hi - lo) (by omega) (by omega)]
    by_cases c : hi - lo > 1000000000
    · rw [if_pos c]
    · rw [if_neg c]
      have z3 := B.lo1
      have z4 := B.hi1
      obtain ⟨m1, m2⟩ := cosover_lo_hi B h1
      rw [w64 (x := H - L) (by omega) (by omega), w64 (x := 7 * (hi - lo)) (by omega) (by omega), w64 (x := 3 + 7 * (hi - lo)) (by omega) (by omega), if_pos (W (by omega)), w64 (x := H' - L') (by omega) (by omega)]
      exact congrArg some (decide_eq_true W')
  · have c1 := interval_Check_ev lo hi
    have e : Ev (fun k => trig_SinOver.f k lo hi) (0, 0, sp lo hi) := by
      unfold trig_SinOver.f
      exact ev_bind c1 (Ev.congr (fun k => if_neg hx) (ev_some 0 fun k => rfl))
    have e' : Ev (fun k => trig_CosOver.f k lo hi) (0, 0, sp lo hi) := by
      unfold trig_CosOver.f
      exact ev_bind c1 (Ev.congr (fun k => if_neg hx) (ev_some 0 fun k => rfl))
    refine ev_bind e (ev_bind e' (ev_bind (spanErr_ev lo hi) ?_))
    refine ev_some 0 fun k => ?_
    rw [if_neg hx, none_same, Option.bind_some, if_pos rfl]
    rfl
end Go.Proofs.Ytelcegpaakbppaa.Pure
