/- The latitude and the elongation of the moon. -/
import Derived.Test.YtmahlfjnejbcnaaTopPhasesn36
namespace Go.Proofs.Ytmahlfjnejbcnaa.MoonT
open Go.RowKit YtmahlfjnejbcnaaW.PrintWords YtmahlfjnejbcnaaW.PrintLast YtmahlfjnejbcnaaW.PrintMore Opn PAll Base Over RefT Units Args SumsT Vals SkyT
set_option linter.unusedVariables false
set_option linter.unusedSimpArgs false
theorem elong_ev {t : Int} (h : it t = 0) : ∃ al ah w v, Ev (fun k => moon_Elongation.f k t) (al, ah, 0) ∧ (∀ n, -8 ≤ n → n ≤ 8 → Ev (fun k => ephemerisref2_MoonLon.f k t n) ((w + 2500 * n * 1048576) % 1048576000000000)) ∧ (∀ n, -8 ≤ n → n ≤ 8 → Ev (fun k => ephemerisref2_SunLon.f k t n) ((v + 250 * n * 1048576) % 1048576000000000)) ∧ 0 ≤ al ∧ al < 1000000000 ∧ ah - al ≤ 44018 ∧ al + 44000 ≤ ah ∧
  (∃ z : Int, al * 1048576 + 22000 * 1048576 ≤ w - v + z * 1048576000000000 + 320 ∧ w - v + z * 1048576000000000 + 22000 * 1048576 ≤ ah * 1048576 + 320) := by
 obtain ⟨al, ah, w, e1, e2, a0, a1, r1, r2, z, z1, z2⟩ := moonLon_ev h
 obtain ⟨bl, bh, v, f1, f2, b0, b1, s1, s2, y, y1, y2⟩ := sunLon_ev h
 refine ⟨(al - bh) % 1000000000, ah - bl - (al - bh) / 1000000000 * 1000000000, w, v, ?_, e2, f2, by omega, by omega, by omega, by omega, z - y - (al - bh) / 1000000000, by omega, by omega⟩
 unfold moon_Elongation.f
 refine ev_bind e1 ?_
 refine Ev.congr (fun k => if_pos rfl) ?_
 refine ev_bind f1 (ev_some 0 fun k => ?_)
 simp only
 rw [w64 (x := al - bh) (by omega) (by omega), w64 (x := ah - bl) (by omega) (by omega), sreduced_at (by omega) (by omega) (by omega) (by omega), Option.bind_some]
end Go.Proofs.Ytmahlfjnejbcnaa.MoonT
