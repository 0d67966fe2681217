/- The longitudes of the sun and the moon, the latitude of the moon: the program's intervals hold the reference's numbers. -/
import Derived.Test.YtbnchibmegclmaaSunLongitudesn16
import Derived.Test.YtbnchibmegclmaaSunLongitudesn9
import Derived.Test.YtbnchibmegclmaaSunLongitudesn17
import Derived.Test.YtbnchibmegclmaaSunLongitudesn2
import Derived.Test.YtbnchibmegclmaaSunLongitudesn3
import Derived.Test.YtbnchibmegclmaaSunLongitudesn8
import Derived.Test.YtbnchibmegclmaaSunLongitudesn32
namespace Go.Proofs.Ytbnchibmegclmaa.SkyT
open Go.RowKit Go.Proofs.YtbnchibmegclmaaW.PrintWords Go.Proofs.YtbnchibmegclmaaW.PrintLast Go.Proofs.YtbnchibmegclmaaW.PrintMore Go.Proofs.Ytbnchibmegclmaa.PAll Go.Proofs.Ytbnchibmegclmaa.Base Go.Proofs.Ytbnchibmegclmaa.Over Go.Proofs.Ytbnchibmegclmaa.RefT Go.Proofs.Ytbnchibmegclmaa.Units Go.Proofs.Ytbnchibmegclmaa.Args Go.Proofs.Ytbnchibmegclmaa.SumsT Go.Proofs.Ytbnchibmegclmaa.Vals
set_option linter.unusedVariables false
set_option linter.unusedSimpArgs false
theorem none_at (e : Int) : ephemerislaw2_none.f 0 0 e e = some true := by unfold ephemerislaw2_none.f; simp
theorem contAngle_at {al ah d w : Int} (a0 : 0 ≤ al) (a1 : al < 1000000000) (d0 : 0 ≤ d) (d1 : d ≤ 100000000) (wd : ah - al ≤ 100000000000) (le : al + 2 * d ≤ ah) (z : Int) (h1 : al * 1048576 + d * 1048576 ≤ w + z * 1048576000000000 + 8192) (h2 : w + z * 1048576000000000 + d * 1048576 ≤ ah * 1048576 + 8192) : ephemerisref2_ContainsAngle.f al ah (w % 1048576000000000) d = some true := by
  unfold ephemerisref2_ContainsAngle.f
  rw [if_neg (by omega), if_neg (by omega), w64 (x := d * 1048576) (by omega) (by omega), w64 (x := w % 1048576000000000 - d * 1048576) (by omega) (by omega), w64 (x := al * 1048576) (by omega) (by omega), w64 (x := w % 1048576000000000 - d * 1048576 - al * 1048576) (by omega) (by omega), w64 (x := w % 1048576000000000 - d * 1048576 - al * 1048576 + 8192) (by omega) (by omega), mod_pos (by omega) (by omega), Option.bind_some, w64 (x := ah - al) (by omega) (by omega), w64 (x := 2 * d) (by omega) (by omega), w64 (x := ah - al - 2 * d) (by omega) (by omega), w64 (x := (ah - al - 2 * d) * 1048576) (by omega) (by omega), w64 (x := (ah - al - 2 * d) * 1048576 + 16384) (by omega) (by omega)]
  exact congrArg some (decide_eq_true (by omega))
/-- The longitude of the sun. -/
theorem sunLon_bad {t : Int} (h : it t ≠ 0) : Ev (fun k => sun_Longitude.f k t) (0, 0, it t) := by
  unfold sun_Longitude.f sun_Series.f
  have e : st2 775342092 2737909333333 [(⟨5318339, 84888545, 2737778555556⟩ : S83), ⟨55536, 169777090, 5475557111112⟩] 2000 t = it t := if_pos (by decide)
  have b := angle_bad (m := 775342092) (b := 2737909333333) (l := [(⟨5318339, 84888545, 2737778555556⟩ : S83), ⟨55536, 169777090, 5475557111112⟩]) (d := 2000) (t := t) (by rw [e]; exact h)
  rw [e] at b
  refine Ev.congr (fun k => Option.bind_some _ _) ?_
  exact ev_bind b (ev_some 0 fun k => rfl)
theorem sunLon_ev {t : Int} (h : it t = 0) : ∃ al ah w, Ev (fun k => sun_Longitude.f k t) (al, ah, 0) ∧ (∀ n, -8 ≤ n → n ≤ 8 → Ev (fun k => ephemerisref2_SunLon.f k t n) ((w + 250 * n * 1048576) % 1048576000000000)) ∧ 0 ≤ al ∧ al < 1000000000 ∧ ah - al ≤ 4005 ∧ al + 4000 ≤ ah ∧
    (∃ z : Int, al * 1048576 + 2000 * 1048576 ≤ w + z * 1048576000000000 + 160 ∧ w + z * 1048576000000000 + 2000 * 1048576 ≤ ah * 1048576 + 160) := by
  have e : st2 775342092 2737909333333 [(⟨5318339, 84888545, 2737778555556⟩ : S83), ⟨55536, 169777090, 5475557111112⟩] 2000 t = it t := if_pos (by decide)
  obtain ⟨al, ah, w, e1, e2, a0, a1, r1, r2, z, z1, z2⟩ := angle_ev (m := 775342092) (b := 2737909333333) (l := [(⟨5318339, 84888545, 2737778555556⟩ : S83), ⟨55536, 169777090, 5475557111112⟩]) (d := 2000) (t := t) (by rw [e]; exact h)
  have q : qs [(⟨5318339, 84888545, 2737778555556⟩ : S83), ⟨55536, 169777090, 5475557111112⟩] = 4 := by decide
  rw [q] at r1
  refine ⟨al, ah, w, ?_, ?_, a0, a1, by omega, by omega, z, z1, z2⟩
  · unfold sun_Longitude.f sun_Series.f
    refine Ev.congr (fun k => Option.bind_some _ _) ?_
    exact ev_bind e1 (ev_some 0 fun k => rfl)
  · intro n n1 n2
    unfold ephemerisref2_SunLon.f ephemerisref2_sunSum.f
    refine Ev.congr (fun k => Option.bind_some _ _) ?_
    refine ev_bind e2 (ev_some 0 fun k => ?_)
    rw [w64 (x := 250 * n) (by omega) (by omega), w64 (x := 250 * n * 1048576) (by omega) (by omega), w64 (by omega) (by omega), mod_pos (by omega) (by omega), Option.bind_some]
    congr 1; omega
end Go.Proofs.Ytbnchibmegclmaa.SkyT
