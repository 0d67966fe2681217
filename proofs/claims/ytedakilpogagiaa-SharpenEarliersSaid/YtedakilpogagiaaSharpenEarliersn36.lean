/- SharpenEarliers: Earlier is what the document says. -/
import Derived.Test.YtedakilpogagiaaSharpenEarliersn22
import Derived.Test.YtedakilpogagiaaSharpenEarliersn35
namespace Go.Proofs.Ytedakilpogagiaa.Pure
open Go Go.RowKit YtedakilpogagiaaW.PrintWords YtedakilpogagiaaW.PrintLast YtedakilpogagiaaW.PrintMore Opn PAll Base Over
set_option linter.unusedVariables false
set_option linter.unusedSimpArgs false
theorem sharpen_works : Ev (fun k => ephemerislaw2_sharpenWorks.f k) true := Ev.of ephemerislaw2_sharpenWorks.mono (k := 100) (by decide +kernel)
theorem spanErr_at (k : Nat) (a b : Int) : ephemerisref2_SpanErr.f (k + 1) a b = some (sp a b) := by
 unfold ephemerisref2_SpanErr.f sp
 by_cases c1 : a < -1000000000000000000
 ·simp [c1, ephemerisref2_SpanErr.j0]
 by_cases c2 : a > 1000000000000000000
 ·simp [c1, c2, ephemerisref2_SpanErr.j0]
 by_cases c3 : b < -1000000000000000000
 ·simp [c1, c2, c3, ephemerisref2_SpanErr.j0]
 by_cases c4 : b > 1000000000000000000
 ·simp [c1, c2, c3, c4, ephemerisref2_SpanErr.j0]
 by_cases c5 : b < a
 ·simp [c1, c2, c3, c4, c5, ephemerisref2_SpanErr.j0]
 ·simp [c1, c2, c3, c4, c5, ephemerisref2_SpanErr.j0]
theorem spanErr_ev (a b : Int) : Ev (fun k => ephemerisref2_SpanErr.f k a b) (sp a b) := ev_some 1 fun k => spanErr_at k a b
theorem SharpenEarliers : PureX := by
 intro s r hs hr
 obtain ⟨a, b⟩ := s
 obtain ⟨c, d⟩ := r
 refine ev_k (g := fun k => ephemerislaw2_SharpenEarliers.f k a b c d) ?_
 have key : Ev (fun k => sharpen_Earlier.f k a b c d) (if sp a b = 0 then (if sp c d = 0 then (if b < c then (-1, 0) else if a > d then (1, 0) else (0, 11)) else (0, sp c d)) else (0, sp a b)) := by
  unfold sharpen_Earlier.f
  refine ev_step 1 (fun k => by rw [sharpen_Earlier.l0, if_pos (by omega), if_pos (by omega)]) ?_
  refine ev_bind (a := sp a b) (interval_Check_ev a b) ?_
  by_cases z1 : sp a b = 0
  ·simp only [if_pos z1]
   rw [w64 (x := 0 + 1) (by omega) (by omega), show (0 : Int) + 1 = 1 from rfl]
   refine ev_step 1 (fun k => by rw [sharpen_Earlier.l0, if_pos (by omega), if_pos (by omega)]) ?_
   refine ev_bind (a := sp c d) (interval_Check_ev c d) ?_
   by_cases z2 : sp c d = 0
   ·simp only [if_pos z2]
    rw [w64 (x := 1 + 1) (by omega) (by omega), show (1 : Int) + 1 = 2 from rfl]
    refine ev_some 1 fun k => ?_
    rw [sharpen_Earlier.l0, if_neg (by omega)]
    by_cases c1 : b < c
    ·rw [if_pos c1, if_pos c1]
    ·rw [if_neg c1, if_neg c1]
     by_cases c2 : a > d
     ·rw [if_pos c2, if_pos c2]
     ·rw [if_neg c2, if_neg c2]
   ·simp only [if_neg z2]
    exact ev_some 0 fun k => rfl
  ·simp only [if_neg z1]
   exact ev_some 0 fun k => rfl
 have two : Ev (fun k => ephemerisref2_TwoErr.f k a b c d) (if sp a b = 0 then sp c d else sp a b) := by
  unfold ephemerisref2_TwoErr.f
  refine ev_bind (spanErr_ev a b) ?_
  by_cases z : sp a b = 0
  ·simp only [if_pos z]
   exact ev_bind (spanErr_ev c d) (ev_some 0 fun k => rfl)
  ·simp only [if_neg z]
   exact ev_some 0 fun k => rfl
 unfold ephemerislaw2_SharpenEarliers.f
 refine ev_bind sharpen_works ?_
 refine Ev.congr (fun k => if_pos rfl) ?_
 refine ev_bind key (ev_bind two (ev_some 0 fun k => ?_))
 by_cases z1 : sp a b = 0
 ·by_cases z2 : sp c d = 0
  ·simp only [if_pos z1, if_pos z2]
   by_cases c1 : b < c
   ·simp [c1]
   ·by_cases c2 : d < a
    ·simp [c1, c2]
    ·simp [c1, c2]
  ·simp [z1, z2]
 ·simp [z1]
end Go.Proofs.Ytedakilpogagiaa.Pure
