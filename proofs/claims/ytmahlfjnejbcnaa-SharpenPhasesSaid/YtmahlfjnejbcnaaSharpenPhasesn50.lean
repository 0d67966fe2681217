/- SharpenPhases: Phase is a narrower interval with the properties of that of phase.Find. -/
import Derived.Test.YtmahlfjnejbcnaaSharpenPhasesn23
import Derived.Test.YtmahlfjnejbcnaaSharpenPhasesn49
namespace Go.Proofs.Ytmahlfjnejbcnaa.Pure
open Go Go.RowKit YtmahlfjnejbcnaaW.PrintWords YtmahlfjnejbcnaaW.PrintLast YtmahlfjnejbcnaaW.PrintMore Opn PAll Base SinT Over RefT Units SumsT Vals SkyT SlpT PhaseT SharpT
set_option linter.unusedVariables false
set_option linter.unusedSimpArgs false
theorem SharpenPhases : ephemerislaw2_SharpenPhases.Pure := by
 intro L q wd a b wL wq ww wa wb
 have iw := i64_of ww
 unfold I64 at iw
 refine ev_k (g := fun k => ephemerislaw2_SharpenPhases.f k L q wd a b) ?_
 have law : ∀ x w e fa fb fe : Int, Ev (fun k => sharpen_Phase.f k L q wd) (x, w, e) → Ev (fun k => phase_Find.f k L q) (fa, fb, fe) → Ev (fun k => ephemerislaw2_SharpenPhases.j1 k q wd a b e (if fe = 0 ∧ wd < 1 then 1 else fe) x w fa fb) true → Ev (fun k => ephemerislaw2_SharpenPhases.f k L q wd a b) true := by
  intro x w e fa fb fe h1 h2 h3
  unfold ephemerislaw2_SharpenPhases.f
  refine ev_bind sharpen_works ?_
  refine Ev.congr (fun k => if_pos rfl) ?_
  refine ev_bind h1 (ev_bind h2 ?_)
  dsimp only
  by_cases c : fe = 0
  ·by_cases c2 : wd < 1
   ·rw [if_pos ⟨c, c2⟩] at h3
    exact ev_step 1 (fun k => by rw [if_pos c, decide_eq_true c2, ephemerislaw2_SharpenPhases.j0, if_pos rfl]) h3
   ·rw [if_neg (fun h => c2 h.2)] at h3
    exact ev_step 1 (fun k => by rw [if_pos c, decide_eq_false c2, ephemerislaw2_SharpenPhases.j0, if_neg (by simp)]) h3
  ·rw [if_neg (fun h => c h.1)] at h3
   exact ev_step 1 (fun k => by rw [if_neg c, ephemerislaw2_SharpenPhases.j0, if_neg (by simp)]) h3
 rcases pfind_any L q with ⟨e, he, hf⟩ | ⟨l1, l2, q1, q2, x, w, v, u, hf, x1, xw, w1, xw2, tx, vn, tw, up⟩
 ·refine law 0 0 e 0 0 e (sharp_phase_err hf he) hf (ev_some 1 fun k => ?_)
  rw [if_neg (fun h => he h.1), ephemerislaw2_SharpenPhases.j1, if_neg he, none_at, Option.bind_some]
 by_cases cw : wd < 1
 ·refine law 0 0 1 x w 0 (sharp_phase_arg hf cw) hf (ev_some 1 fun k => ?_)
  rw [if_pos ⟨rfl, cw⟩, ephemerislaw2_SharpenPhases.j1, if_neg (by decide), none_at, Option.bind_some]
 obtain ⟨x', w', e, es, hs, _⟩ := sharp_phase hf l1 l2 q1 q2 (by omega) (by omega) xw tx vn tw up (wd := wd) (by omega)
 refine law x' w' e x w 0 es hf ?_
 rw [if_neg (fun h => cw h.2)]
 rcases hs with ⟨rfl, g1, g2, g3, g4, ⟨v', tv, v0⟩, ⟨u', tu, u0⟩⟩ | ⟨rfl, rfl, rfl, g⟩
 ·obtain ⟨i, hi, i0, i1⟩ := at_ok (k := a) (n := 17) (by omega) (by omega)
  obtain ⟨j, hj, j0, j1⟩ := at_ok (k := b) (n := 17) (by omega) (by omega)
  have mb : -256000000000000 ≤ md L q ∧ md L q ≤ 256000000000000 := by unfold md; omega
  have hx := md_valid (L := L) (q := q) (t := x') (by omega) (by omega) q1 q2 (by omega) (by omega)
  have hy := md_valid (L := L) (q := q) (t := w') (by omega) (by omega) q1 q2 (by omega) (by omega)
  obtain ⟨dm, ds, hm, hs, f1, _, _, _⟩ := tv
  obtain ⟨dm', ds', hm', hs', _, _, f2, _⟩ := tu
  have fx := f1 v0
  have fy := f2 u0
  have bx := X_small (L := L) (q := q) hx hm hs (by omega) (by omega) q1 q2 (by omega) (by omega)
  have bY := X_small (L := L) (q := q) hy hm' hs' (by omega) (by omega) q1 q2 (by omega) (by omega)
  have a1 := ahead_at (i := i - 8) (j := j - 8) (L := L) (q := q) (x := X L q x' dm ds) (W := Wm x' dm) (V := Ws x' ds) rfl bx.1 bx.2 (by omega) (by omega) (by omega) (by omega) q1 q2 rfl rfl
  have a2 := ahead_at (i := i - 8) (j := j - 8) (L := L) (q := q) (x := X L q w' dm' ds') (W := Wm w' dm') (V := Ws w' ds') rfl bY.1 bY.2 (by omega) (by omega) (by omega) (by omega) q1 q2 rfl rfl
  refine ev_step 1 (fun k => by rw [ephemerislaw2_SharpenPhases.j1, if_pos rfl, if_pos rfl, hi, Option.bind_some, hj, Option.bind_some, if_pos g1, if_pos g3, w64 (x := w' - x') (by omega) (by omega), if_pos g4, w64 (x := i - 8) (by omega) (by omega), w64 (x := j - 8) (by omega) (by omega)]) ?_
  refine ev_bind (moon_md hx hm (n := i - 8) (by omega) (by omega)) ?_
  refine ev_bind (sun_md hx hs (n := j - 8) (by omega) (by omega)) ?_
  refine Ev.congr (fun k => by rw [a1, Option.bind_some, if_pos (by omega)]) ?_
  refine ev_bind (moon_md hy hm' (n := i - 8) (by omega) (by omega)) ?_
  refine ev_bind (sun_md hy hs' (n := j - 8) (by omega) (by omega)) ?_
  refine ev_some 0 fun k => ?_
  rw [a2, Option.bind_some]
  exact congrArg some (decide_eq_true (by omega))
 ·refine ev_some 1 fun k => ?_
  rw [ephemerislaw2_SharpenPhases.j1, if_pos rfl, if_neg (by decide), none_at, Option.bind_some, if_pos rfl]
  exact congrArg some (decide_eq_true (by omega))
end Go.Proofs.Ytmahlfjnejbcnaa.Pure
