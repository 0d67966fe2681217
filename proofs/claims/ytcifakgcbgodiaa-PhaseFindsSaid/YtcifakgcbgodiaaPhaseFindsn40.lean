/- PhaseFinds: the elongation passes the value of the phase within the interval. -/
import Derived.Test.YtcifakgcbgodiaaPhaseFindsn19
import Derived.Test.YtcifakgcbgodiaaPhaseFindsn39
namespace Go.Proofs.Ytcifakgcbgodiaa.Pure
open Go Go.RowKit YtcifakgcbgodiaaW.PrintWords YtcifakgcbgodiaaW.PrintLast YtcifakgcbgodiaaW.PrintMore PAll Base Over RefT Units SumsT Vals SkyT MoonT SinT SlpT PhaseT
set_option linter.unusedVariables false
set_option linter.unusedSimpArgs false
theorem phase_works : Ev (fun k => ephemerislaw2_phaseWorks.f k) true := Ev.of ephemerislaw2_phaseWorks.mono (k := 100) (by decide +kernel)
theorem pbeyond_at {a : Int} : ephemerislaw2_beyond.f a 100000 = some (decide (a < -100000 ∨ 100000 < a)) := by
 unfold ephemerislaw2_beyond.f
 rw [w64 (x := -100000) (by omega) (by omega)]
 by_cases c : a < -100000
 ·rw [if_pos c, decide_eq_true (Or.inl c)]
 ·rw [if_neg c]
  by_cases c2 : a > 100000
  ·rw [decide_eq_true c2, decide_eq_true (Or.inr c2)]
  ·rw [decide_eq_false c2, decide_eq_false (by omega)]
theorem ahead_at {L q x d e W V i j : Int} (hx : x = W - V - (L * 1000000000 + q * 250000000) * 1048576) (x1 : -100000000 * 1048576 ≤ x) (x2 : x ≤ 100000000 * 1048576) (i1 : -8 ≤ i) (i2 : i ≤ 8) (j1 : -8 ≤ j) (j2 : j ≤ 8) (q1 : 0 ≤ q) (q2 : q ≤ 3)
  (hd : d = (W + 2500 * i * 1048576) % 1048576000000000) (he : e = (V + 250 * j * 1048576) % 1048576000000000) : ephemerislaw2_ahead.f (wrap64 (d - e)) (wrap64 ((wrap64 (q * 250000000)) * 1048576)) = some (x + 2500 * i * 1048576 - 250 * j * 1048576) := by
 unfold ephemerislaw2_ahead.f
 rw [w64 (x := d - e) (by omega) (by omega), w64 (x := q * 250000000) (by omega) (by omega), w64 (x := q * 250000000 * 1048576) (by omega) (by omega), w64 (x := d - e - q * 250000000 * 1048576) (by omega) (by omega), w64 (x := d - e - q * 250000000 * 1048576 + 524288000000000) (by omega) (by omega), mod_pos (by omega) (by omega), Option.bind_some, w64 (by omega) (by omega)]
 congr 1
 omega
theorem PhaseFinds : ephemerislaw2_PhaseFinds.Pure := by
 intro L q a b hL hq ha hb
 refine ev_k (g := fun k => ephemerislaw2_PhaseFinds.f k L q a b) ?_
 unfold ephemerislaw2_PhaseFinds.f
 refine ev_bind phase_works ?_
 refine Ev.congr (fun k => if_pos rfl) ?_
 by_cases cq : q < 0 ∨ 3 < q
 ·refine ev_bind (find_arg cq) ?_
  have e : ∀ k, (if q < 0 then ephemerislaw2_PhaseFinds.j0 k L q a b 1 true 0 0 else ephemerislaw2_PhaseFinds.j0 k L q a b 1 (decide (q > 3)) 0 0) = ephemerislaw2_PhaseFinds.j0 k L q a b 1 true 0 0 := by
   intro k
   by_cases c : q < 0
   ·rw [if_pos c]
   ·rw [if_neg c, decide_eq_true (show q > 3 by omega)]
  refine Ev.congr (fun k => e k) ?_
  refine ev_some 1 fun k => ?_
  rw [ephemerislaw2_PhaseFinds.j0, if_pos rfl, none_at, Option.bind_some]
 have q1 : 0 ≤ q := by omega
 have q2 : q ≤ 3 := by omega
 have e : ∀ (k : Nat) (r : Int × Int × Int), (if q < 0 then ephemerislaw2_PhaseFinds.j0 k L q a b r.2.2 true r.1 r.2.1 else ephemerislaw2_PhaseFinds.j0 k L q a b r.2.2 (decide (q > 3)) r.1 r.2.1) = ephemerislaw2_PhaseFinds.j0 k L q a b r.2.2 false r.1 r.2.1 := by
  intro k r
  rw [if_neg (by omega), decide_eq_false (show ¬ q > 3 by omega)]
 by_cases cL : L < -100000 ∨ 100000 < L
 ·refine ev_bind (find_range q1 q2 cL) ?_
  refine Ev.congr (fun k => e k (0, 0, 3)) ?_
  refine ev_some 1 fun k => ?_
  rw [ephemerislaw2_PhaseFinds.j0, if_neg (by simp), pbeyond_at, Option.bind_some, decide_eq_true cL, if_pos rfl, none_at, Option.bind_some]
 obtain ⟨x, y, v, w, ef, x1, xy, y1, wd, tx, v0, ty, w0⟩ := find_ev (L := L) (q := q) (by omega) (by omega) q1 q2
 refine ev_bind ef ?_
 refine Ev.congr (fun k => e k (x, y, 0)) ?_
 obtain ⟨i, hi, i0, i1⟩ := at_ok (k := a) (n := 17) (by omega) (by omega)
 obtain ⟨j, hj, j0, j1⟩ := at_ok (k := b) (n := 17) (by omega) (by omega)
 have m0 : wrap64 ((wrap64 (977949455 + (wrap64 (2551442878 * L)))) + (wrap64 (637860719 * q))) = md L q := by
  unfold md
  rw [w64 (x := 2551442878 * L) (by omega) (by omega), w64 (x := 637860719 * q) (by omega) (by omega), w64 (x := 977949455 + 2551442878 * L) (by omega) (by omega), w64 (by omega) (by omega)]
 have mb : -256000000000000 ≤ md L q ∧ md L q ≤ 256000000000000 := by unfold md; omega
 have hx := md_valid (L := L) (q := q) (t := x) (by omega) (by omega) q1 q2 (by omega) (by omega)
 have hy := md_valid (L := L) (q := q) (t := y) (by omega) (by omega) q1 q2 (by omega) (by omega)
 obtain ⟨dm, ds, hm, hs, f1, _, _, _⟩ := tx
 obtain ⟨dm', ds', hm', hs', _, _, f2, _⟩ := ty
 have fx := f1 v0
 have fy := f2 w0
 have bx := X_small (L := L) (q := q) hx hm hs (by omega) (by omega) q1 q2 (by omega) (by omega)
 have bY := X_small (L := L) (q := q) hy hm' hs' (by omega) (by omega) q1 q2 (by omega) (by omega)
 have a1 := ahead_at (i := i - 8) (j := j - 8) (L := L) (q := q) (x := X L q x dm ds) (W := Wm x dm) (V := Ws x ds) rfl bx.1 bx.2 (by omega) (by omega) (by omega) (by omega) q1 q2 rfl rfl
 have a2 := ahead_at (i := i - 8) (j := j - 8) (L := L) (q := q) (x := X L q y dm' ds') (W := Wm y dm') (V := Ws y ds') rfl bY.1 bY.2 (by omega) (by omega) (by omega) (by omega) q1 q2 rfl rfl
 have z1 : ∀ z, md L q - 172800000 < z → wrap64 (md L q - 172800000) = md L q - 172800000 := fun _ _ => w64 (by omega) (by omega)
 refine ev_step 1 (fun k => by rw [ephemerislaw2_PhaseFinds.j0, if_neg (by simp), pbeyond_at, Option.bind_some, decide_eq_false (by omega), if_neg (by simp), hi, Option.bind_some, hj, Option.bind_some, if_pos rfl, m0, w64 (x := md L q - 172800000) (by omega) (by omega), if_pos x1, w64 (x := md L q + 172800000) (by omega) (by omega), if_pos y1, w64 (x := y - x) (by omega) (by omega), if_pos wd, w64 (x := i - 8) (by omega) (by omega), w64 (x := j - 8) (by omega) (by omega)]) ?_
 refine ev_bind (moon_md hx hm (n := i - 8) (by omega) (by omega)) ?_
 refine ev_bind (sun_md hx hs (n := j - 8) (by omega) (by omega)) ?_
 refine Ev.congr (fun k => by rw [a1, Option.bind_some, if_pos (by omega)]) ?_
 refine ev_bind (moon_md hy hm' (n := i - 8) (by omega) (by omega)) ?_
 refine ev_bind (sun_md hy hs' (n := j - 8) (by omega) (by omega)) ?_
 refine ev_some 0 fun k => ?_
 rw [a2, Option.bind_some]
 exact congrArg some (decide_eq_true (by omega))
end Go.Proofs.Ytcifakgcbgodiaa.Pure
