/- The latitude and the elongation of the moon. -/
import Derived.Test.YtcifakgcbgodiaaMoonLongitudesn9
import Derived.Test.YtcifakgcbgodiaaMoonLongitudesn11
import Derived.Test.YtcifakgcbgodiaaMoonLongitudesn2
import Derived.Test.YtcifakgcbgodiaaMoonLongitudesn8
import Derived.Test.YtcifakgcbgodiaaMoonLongitudesn27
namespace Go.Proofs.Ytcifakgcbgodiaa.MoonT
open Go.RowKit Go.Proofs.YtcifakgcbgodiaaW.PrintWords Go.Proofs.YtcifakgcbgodiaaW.PrintLast Go.Proofs.YtcifakgcbgodiaaW.PrintMore Go.Proofs.Ytcifakgcbgodiaa.PAll Go.Proofs.Ytcifakgcbgodiaa.Base Go.Proofs.Ytcifakgcbgodiaa.Over Go.Proofs.Ytcifakgcbgodiaa.RefT Go.Proofs.Ytcifakgcbgodiaa.Units Go.Proofs.Ytcifakgcbgodiaa.Args Go.Proofs.Ytcifakgcbgodiaa.SumsT Go.Proofs.Ytcifakgcbgodiaa.Vals Go.Proofs.Ytcifakgcbgodiaa.SkyT
set_option linter.unusedVariables false
set_option linter.unusedSimpArgs false
theorem moonLat_bad {t : Int} (h : it t ≠ 0) : Ev (fun k => moon_Latitude.f k t) (0, 0, it t) := by
  unfold moon_Latitude.f moon_North.f
  have e : st2 0 0 [(⟨14244783, 648500531, 36748195111111⟩ : S80), ⟨779450, 747884547, 73039842194444⟩, ⟨771369, 450883485, -456548027778⟩] 20000 t = it t := if_pos (by decide)
  have b := value_bad (m := 0) (b := 0) (l := [(⟨14244783, 648500531, 36748195111111⟩ : S80), ⟨779450, 747884547, 73039842194444⟩, ⟨771369, 450883485, -456548027778⟩]) (d := 20000) (t := t) (by rw [e]; exact h)
  rw [e] at b
  refine Ev.congr (fun k => Option.bind_some _ _) ?_
  exact ev_bind b (ev_some 0 fun k => rfl)
theorem moonLat_ev {t : Int} (h : it t = 0) : ∃ vl vh n, Ev (fun k => moon_Latitude.f k t) (vl, vh, 0) ∧ (∀ m, -8 ≤ m → m ≤ 8 → Ev (fun k => ephemerisref2_MoonLat.f k t m) (n + 2500 * m * 1048576)) ∧ vl * 1048576 + 20000 * 1048576 ≤ n + 160 ∧ n + 20000 * 1048576 ≤ vh * 1048576 + 160 ∧ vh - vl ≤ 40006 ∧ vl + 40000 ≤ vh ∧
    -41200000000 ≤ vl ∧ vh ≤ 41200000000 ∧ -45100000000000000 ≤ n ∧ n ≤ 45100000000000000 := by
  have e : st2 0 0 [(⟨14244783, 648500531, 36748195111111⟩ : S80), ⟨779450, 747884547, 73039842194444⟩, ⟨771369, 450883485, -456548027778⟩] 20000 t = it t := if_pos (by decide)
  obtain ⟨vl, vh, n, e1, e2, r1, r2, r3, r4, r5, r6, r7, r8⟩ := value_ev (m := 0) (b := 0) (l := [(⟨14244783, 648500531, 36748195111111⟩ : S80), ⟨779450, 747884547, 73039842194444⟩, ⟨771369, 450883485, -456548027778⟩]) (d := 20000) (t := t) (by rw [e]; exact h)
  have q : qs [(⟨14244783, 648500531, 36748195111111⟩ : S80), ⟨779450, 747884547, 73039842194444⟩, ⟨771369, 450883485, -456548027778⟩] = 6 := by decide
  rw [q] at r3
  refine ⟨vl, vh, n, ?_, ?_, r1, r2, by omega, by omega, r5, r6, r7, r8⟩
  · unfold moon_Latitude.f moon_North.f
    refine Ev.congr (fun k => Option.bind_some _ _) ?_
    exact ev_bind e1 (ev_some 0 fun k => rfl)
  · intro m m1 m2
    unfold ephemerisref2_MoonLat.f ephemerisref2_northSum.f
    refine Ev.congr (fun k => Option.bind_some _ _) ?_
    refine ev_bind e2 (ev_some 0 fun k => ?_)
    rw [w64 (x := 2500 * m) (by omega) (by omega), w64 (x := 2500 * m * 1048576) (by omega) (by omega), w64 (by omega) (by omega)]
end Go.Proofs.Ytcifakgcbgodiaa.MoonT
