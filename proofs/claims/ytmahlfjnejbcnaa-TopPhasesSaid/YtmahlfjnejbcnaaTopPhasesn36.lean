/- The longitudes of the sun and the moon, the latitude of the moon: the program's intervals hold the reference's numbers. -/
import Derived.Test.YtmahlfjnejbcnaaTopPhasesn35
namespace Go.Proofs.Ytmahlfjnejbcnaa.SkyT
open Go.RowKit YtmahlfjnejbcnaaW.PrintWords YtmahlfjnejbcnaaW.PrintLast YtmahlfjnejbcnaaW.PrintMore Opn PAll Base Over RefT Units Args SumsT Vals
set_option linter.unusedVariables false
set_option linter.unusedSimpArgs false
theorem sunLon_ev {t : Int} (h : it t = 0) : ∃ al ah w, Ev (fun k => sun_Longitude.f k t) (al, ah, 0) ∧ (∀ n, -8 ≤ n → n ≤ 8 → Ev (fun k => ephemerisref2_SunLon.f k t n) ((w + 250 * n * 1048576) % 1048576000000000)) ∧ 0 ≤ al ∧ al < 1000000000 ∧ ah - al ≤ 4005 ∧ al + 4000 ≤ ah ∧
  (∃ z : Int, al * 1048576 + 2000 * 1048576 ≤ w + z * 1048576000000000 + 160 ∧ w + z * 1048576000000000 + 2000 * 1048576 ≤ ah * 1048576 + 160) := by
 have e : st2 775342092 2737909333333 [(⟨5318339, 84888545, 2737778555556⟩ : S71), ⟨55536, 169777090, 5475557111112⟩] 2000 t = it t := if_pos (by decide)
 obtain ⟨al, ah, w, e1, e2, a0, a1, r1, r2, z, z1, z2⟩ := angle_ev (m := 775342092) (b := 2737909333333) (l := [(⟨5318339, 84888545, 2737778555556⟩ : S71), ⟨55536, 169777090, 5475557111112⟩]) (d := 2000) (t := t) (by rw [e]; exact h)
 have q : qs [(⟨5318339, 84888545, 2737778555556⟩ : S71), ⟨55536, 169777090, 5475557111112⟩] = 4 := by decide
 rw [q] at r1
 refine ⟨al, ah, w, ?_, ?_, a0, a1, by omega, by omega, z, z1, z2⟩
 ·unfold sun_Longitude.f sun_Series.f
  refine Ev.congr (fun k => Option.bind_some _ _) ?_
  exact ev_bind e1 (ev_some 0 fun k => rfl)
 ·intro n n1 n2
  unfold ephemerisref2_SunLon.f ephemerisref2_sunSum.f
  refine Ev.congr (fun k => Option.bind_some _ _) ?_
  refine ev_bind e2 (ev_some 0 fun k => ?_)
  rw [w64 (x := 250 * n) (by omega) (by omega), w64 (x := 250 * n * 1048576) (by omega) (by omega), w64 (by omega) (by omega), mod_pos (by omega) (by omega), Option.bind_some]
  congr 1; omega
theorem moonLon_ev {t : Int} (h : it t = 0) : ∃ al ah w, Ev (fun k => moon_Longitude.f k t) (al, ah, 0) ∧ (∀ n, -8 ≤ n → n ≤ 8 → Ev (fun k => ephemerisref2_MoonLon.f k t n) ((w + 2500 * n * 1048576) % 1048576000000000)) ∧ 0 ≤ al ∧ al < 1000000000 ∧ ah - al ≤ 40013 ∧ al + 40000 ≤ ah ∧
  (∃ z : Int, al * 1048576 + 20000 * 1048576 ≤ w + z * 1048576000000000 + 160 ∧ w + z * 1048576000000000 + 20000 * 1048576 ≤ ah * 1048576 + 160) := by
 have e : st2 392048814 36601101305556 [(⟨17468817, 99384016, 36291647083333⟩ : S71), ⟨3538964, 134030564, 31434736861111⟩, ⟨1828650, 233414580, 67726383944444⟩, ⟨593383, 198768032, 72583294166666⟩, ⟨-514211, 84888545, 2737778555556⟩, ⟨-317589, 297001062, 73496390222222⟩] 20000 t = it t := if_pos (by decide)
 obtain ⟨al, ah, w, e1, e2, a0, a1, r1, r2, z, z1, z2⟩ := angle_ev (m := 392048814) (b := 36601101305556) (l := [(⟨17468817, 99384016, 36291647083333⟩ : S71), ⟨3538964, 134030564, 31434736861111⟩, ⟨1828650, 233414580, 67726383944444⟩, ⟨593383, 198768032, 72583294166666⟩, ⟨-514211, 84888545, 2737778555556⟩, ⟨-317589, 297001062, 73496390222222⟩]) (d := 20000) (t := t) (by rw [e]; exact h)
 have q : qs [(⟨17468817, 99384016, 36291647083333⟩ : S71), ⟨3538964, 134030564, 31434736861111⟩, ⟨1828650, 233414580, 67726383944444⟩, ⟨593383, 198768032, 72583294166666⟩, ⟨-514211, 84888545, 2737778555556⟩, ⟨-317589, 297001062, 73496390222222⟩] = 12 := by decide
 rw [q] at r1
 refine ⟨al, ah, w, ?_, ?_, a0, a1, by omega, by omega, z, z1, z2⟩
 ·unfold moon_Longitude.f moon_Series.f
  refine Ev.congr (fun k => Option.bind_some _ _) ?_
  exact ev_bind e1 (ev_some 0 fun k => rfl)
 ·intro n n1 n2
  unfold ephemerisref2_MoonLon.f ephemerisref2_moonSum.f
  refine Ev.congr (fun k => Option.bind_some _ _) ?_
  refine ev_bind e2 (ev_some 0 fun k => ?_)
  rw [w64 (x := 2500 * n) (by omega) (by omega), w64 (x := 2500 * n * 1048576) (by omega) (by omega), w64 (by omega) (by omega), mod_pos (by omega) (by omega), Option.bind_some]
  congr 1; omega
end Go.Proofs.Ytmahlfjnejbcnaa.SkyT
