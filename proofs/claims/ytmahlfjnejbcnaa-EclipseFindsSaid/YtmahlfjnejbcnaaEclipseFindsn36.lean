/- The latitude and the elongation of the moon. -/
import Derived.Test.YtmahlfjnejbcnaaEclipseFindsn35
namespace Go.Proofs.Ytmahlfjnejbcnaa.MoonT
open Go.RowKit YtmahlfjnejbcnaaW.PrintWords YtmahlfjnejbcnaaW.PrintLast YtmahlfjnejbcnaaW.PrintMore PAll Base Over RefT Units Args SumsT Vals SkyT
set_option linter.unusedVariables false
set_option linter.unusedSimpArgs false
theorem moonLat_ev {t : Int} (h : it t = 0) : ∃ vl vh n, Ev (fun k => moon_Latitude.f k t) (vl, vh, 0) ∧ (∀ m, -8 ≤ m → m ≤ 8 → Ev (fun k => ephemerisref2_MoonLat.f k t m) (n + 2500 * m * 1048576)) ∧ vl * 1048576 + 20000 * 1048576 ≤ n + 160 ∧ n + 20000 * 1048576 ≤ vh * 1048576 + 160 ∧ vh - vl ≤ 40006 ∧ vl + 40000 ≤ vh ∧
  -41200000000 ≤ vl ∧ vh ≤ 41200000000 ∧ -45100000000000000 ≤ n ∧ n ≤ 45100000000000000 := by
 have e : st2 0 0 [(⟨14244783, 648500531, 36748195111111⟩ : S71), ⟨779450, 747884547, 73039842194444⟩, ⟨771369, 450883485, -456548027778⟩] 20000 t = it t := if_pos (by decide)
 obtain ⟨vl, vh, n, e1, e2, r1, r2, r3, r4, r5, r6, r7, r8⟩ := value_ev (m := 0) (b := 0) (l := [(⟨14244783, 648500531, 36748195111111⟩ : S71), ⟨779450, 747884547, 73039842194444⟩, ⟨771369, 450883485, -456548027778⟩]) (d := 20000) (t := t) (by rw [e]; exact h)
 have q : qs [(⟨14244783, 648500531, 36748195111111⟩ : S71), ⟨779450, 747884547, 73039842194444⟩, ⟨771369, 450883485, -456548027778⟩] = 6 := by decide
 rw [q] at r3
 refine ⟨vl, vh, n, ?_, ?_, r1, r2, by omega, by omega, r5, r6, r7, r8⟩
 ·unfold moon_Latitude.f moon_North.f
  refine Ev.congr (fun k => Option.bind_some _ _) ?_
  exact ev_bind e1 (ev_some 0 fun k => rfl)
 ·intro m m1 m2
  unfold ephemerisref2_MoonLat.f ephemerisref2_northSum.f
  refine Ev.congr (fun k => Option.bind_some _ _) ?_
  refine ev_bind e2 (ev_some 0 fun k => ?_)
  rw [w64 (x := 2500 * m) (by omega) (by omega), w64 (x := 2500 * m * 1048576) (by omega) (by omega), w64 (by omega) (by omega)]
theorem elong_ev {t : Int} (h : it t = 0) : ∃ al ah w v, Ev (fun k => moon_Elongation.f k t) (al, ah, 0) ∧ (∀ n, -8 ≤ n → n ≤ 8 → Ev (fun k => ephemerisref2_MoonLon.f k t n) ((w + 2500 * n * 1048576) % 1048576000000000)) ∧ (∀ n, -8 ≤ n → n ≤ 8 → Ev (fun k => ephemerisref2_SunLon.f k t n) ((v + 250 * n * 1048576) % 1048576000000000)) ∧ 0 ≤ al ∧ al < 1000000000 ∧ ah - al ≤ 44018 ∧ al + 44000 ≤ ah ∧
  (∃ z : Int, al * 1048576 + 22000 * 1048576 ≤ w - v + z * 1048576000000000 + 320 ∧ w - v + z * 1048576000000000 + 22000 * 1048576 ≤ ah * 1048576 + 320) := by
 obtain ⟨al, ah, w, e1, e2, a0, a1, r1, r2, z, z1, z2⟩ := moonLon_ev h
 obtain ⟨bl, bh, v, f1, f2, b0, b1, s1, s2, y, y1, y2⟩ := sunLon_ev h
 refine ⟨(al - bh) % 1000000000, ah - bl - (al - bh) / 1000000000 * 1000000000, w, v, ?_, e2, f2, by omega, by omega, by omega, by omega, z - y - (al - bh) / 1000000000, by omega, by omega⟩
 unfold moon_Elongation.f
 refine ev_bind e1 ?_
 refine Ev.congr (fun k => if_pos rfl) ?_
 refine ev_bind f1 (ev_some 0 fun k => ?_)
 simp only
 rw [w64 (x := al - bh) (by omega) (by omega), w64 (x := ah - bl) (by omega) (by omega), sreduced_at (by omega) (by omega) (by omega) (by omega), Option.bind_some]
end Go.Proofs.Ytmahlfjnejbcnaa.MoonT
