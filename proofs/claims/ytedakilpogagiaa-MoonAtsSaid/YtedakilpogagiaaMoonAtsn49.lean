/- The latitude and the elongation of the moon. -/
import Derived.Test.YtedakilpogagiaaMoonAtsn48
namespace Go.Proofs.Ytedakilpogagiaa.MoonT
open Go.RowKit Go.Proofs.YtedakilpogagiaaW.PrintWords Go.Proofs.YtedakilpogagiaaW.PrintLast Go.Proofs.YtedakilpogagiaaW.PrintMore Go.Proofs.Ytedakilpogagiaa.Opn Go.Proofs.Ytedakilpogagiaa.PAll Go.Proofs.Ytedakilpogagiaa.Base Go.Proofs.Ytedakilpogagiaa.Over Go.Proofs.Ytedakilpogagiaa.RefT Go.Proofs.Ytedakilpogagiaa.Units Go.Proofs.Ytedakilpogagiaa.Args Go.Proofs.Ytedakilpogagiaa.SumsT Go.Proofs.Ytedakilpogagiaa.Vals Go.Proofs.Ytedakilpogagiaa.SkyT
set_option linter.unusedVariables false
set_option linter.unusedSimpArgs false
theorem moonLat_ev {t : Int} (h : it t = 0) : ∃ vl vh n, Ev (fun k => moon_Latitude.f k t) (vl, vh, 0) ∧ (∀ m, -8 ≤ m → m ≤ 8 → Ev (fun k => ephemerisref2_MoonLat.f k t m) (n + 2500 * m * 1048576)) ∧ vl * 1048576 + 20000 * 1048576 ≤ n + 160 ∧ n + 20000 * 1048576 ≤ vh * 1048576 + 160 ∧ vh - vl ≤ 40006 ∧ vl + 40000 ≤ vh ∧
  -41200000000 ≤ vl ∧ vh ≤ 41200000000 ∧ -45100000000000000 ≤ n ∧ n ≤ 45100000000000000 := by
 have e : st2 0 0 [(⟨14244783, 648500531, 36748195111111⟩ : S94), ⟨779450, 747884547, 73039842194444⟩, ⟨771369, 450883485, -456548027778⟩] 20000 t = it t := if_pos (by decide)
 obtain ⟨vl, vh, n, e1, e2, r1, r2, r3, r4, r5, r6, r7, r8⟩ := value_ev (m := 0) (b := 0) (l := [(⟨14244783, 648500531, 36748195111111⟩ : S94), ⟨779450, 747884547, 73039842194444⟩, ⟨771369, 450883485, -456548027778⟩]) (d := 20000) (t := t) (by rw [e]; exact h)
 have q : qs [(⟨14244783, 648500531, 36748195111111⟩ : S94), ⟨779450, 747884547, 73039842194444⟩, ⟨771369, 450883485, -456548027778⟩] = 6 := by decide
 rw [q] at r3
 refine ⟨vl, vh, n, ?_, ?_, r1, r2, by omega, by omega, r5, r6, r7, r8⟩
 ·unfold moon_Latitude.f moon_North.f
  refine Ev.congr (fun k => Option.bind_some _ _) ?_
  exact ev_bind e1 (ev_some 0 fun k => rfl)
 ·intro m m1 m2
  unfold ephemerisref2_MoonLat.f ephemerisref2_northSum.f
  refine Ev.congr (fun k => Option.bind_some _ _) ?_
  refine ev_bind e2 (ev_some 0 fun k => ?_)
  rw [w64 (x := 2500 * m) (by omega) (by omega), w64 (x := 2500 * m * 1048576) (by omega) (by omega), w64 (by omega) (by omega)]
end Go.Proofs.Ytedakilpogagiaa.MoonT
