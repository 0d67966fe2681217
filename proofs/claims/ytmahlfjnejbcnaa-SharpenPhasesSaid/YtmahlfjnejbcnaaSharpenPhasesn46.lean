/- season.Next: the sun passes a longitude within the interval that it tells. -/
import Derived.Test.YtmahlfjnejbcnaaSharpenPhasesn44
import Derived.Test.YtmahlfjnejbcnaaSharpenPhasesn45
namespace Go.Proofs.Ytmahlfjnejbcnaa.SunT
open Go Go.RowKit YtmahlfjnejbcnaaW.PrintWords YtmahlfjnejbcnaaW.PrintLast YtmahlfjnejbcnaaW.PrintMore Opn PAll Base OctT SinT Circ Over RefT Args SumsT Vals SkyT AmpT SlpT PhaseT
set_option linter.unusedVariables false
set_option linter.unusedSimpArgs false
theorem sun_ang {t : Int} (h : it t = 0) {ds : Int} (hs : Dp sL t ds) : ∃ al ah, Ev (fun k => series_Angle.f k 775342092 2737909333333 sL 2000 t) (al, ah, 0) ∧ Ev (fun k => sun_Longitude.f k t) (al, ah, 0) ∧ 0 ≤ al ∧ al < 1000000000 ∧ ah - al ≤ 4005 ∧ al + 4000 ≤ ah ∧
  ∃ z : Int, al * 1048576 + 2000 * 1048576 ≤ Ws t ds + z * 1048576000000000 + 160 ∧ Ws t ds + z * 1048576000000000 + 2000 * 1048576 ≤ ah * 1048576 + 160 := by
 have e : st2 775342092 2737909333333 sL 2000 t = it t := if_pos (by decide)
 obtain ⟨al, ah, w, e1, e2, a0, a1, r1, r2, z, z1, z2⟩ := angle_ev (m := 775342092) (b := 2737909333333) (l := sL) (d := 2000) (t := t) (by rw [e]; exact h)
 have q : qs sL = 4 := by decide
 rw [q] at r1
 have b := sL_bd h hs
 have e3 := whole_ev (m := 775342092) (b := 2737909333333) (d := 2000) (l := sL) (by decide) h hs (by omega)
 have u := ev_uniq e2 e3
 have hw : 775342092 * 1048576 + ds + U 2737909333333 t = Ws t ds := rfl
 rw [hw] at u
 generalize Ws t ds = W at *
 refine ⟨al, ah, e1, ?_, a0, a1, by omega, by omega, ?_⟩
 ·unfold sun_Longitude.f sun_Series.f
  refine Ev.congr (fun k => Option.bind_some _ _) ?_
  exact ev_bind e1 (ev_some 0 fun k => rfl)
 ·exact ⟨z + (w - W) / 1048576000000000, by omega, by omega⟩
def Y (z lon t ds : Int) : Int := Ws t ds + z * 1048576000000000 - lon * 1048576
theorem sg_Y {al ah z z' lon E x : Int} (hx : x = E + z * 1048576000000000 - lon * 1048576) (x1 : -100000000 * 1048576 ≤ x) (x2 : x ≤ 100000000 * 1048576) (a3 : ah - al ≤ 4005) (a4 : al + 4000 ≤ ah)
  (z1 : al * 1048576 + 2000 * 1048576 ≤ E + z' * 1048576000000000 + 160) (z2 : E + z' * 1048576000000000 + 2000 * 1048576 ≤ ah * 1048576 + 160) :
  (sg al ah (lon % 1000000000) < 0 → x + 2000 * 1048576 ≤ -1048576 + 160) ∧ (¬ sg al ah (lon % 1000000000) < 0 → -(2005 * 1048576 + 160) ≤ x) ∧ (sg al ah (lon % 1000000000) > 0 → 1048576 + 2000 * 1048576 - 160 ≤ x) ∧ (¬ sg al ah (lon % 1000000000) > 0 → x ≤ 2005 * 1048576 + 160) := by
 have e : (al - lon % 1000000000 + 500000000) % 1000000000 - 500000000 = al - lon - (z' - z) * 1000000000 := by omega
 unfold sg
 rw [e]
 by_cases c1 : al - lon - (z' - z) * 1000000000 > 0 ∧ al - lon - (z' - z) * 1000000000 + ah - al < 500000000
 ·rw [if_pos c1]
  refine ⟨fun h => by omega, fun _ => by omega, fun _ => by omega, fun h => by omega⟩
 ·rw [if_neg c1]
  by_cases c2 : al - lon - (z' - z) * 1000000000 + ah - al < 0 ∧ al - lon - (z' - z) * 1000000000 > -500000000
  ·rw [if_pos c2]
   refine ⟨fun _ => by omega, fun h => by omega, fun h => by omega, fun _ => by omega⟩
  ·rw [if_neg c2]
   refine ⟨fun h => by omega, fun _ => by omega, fun h => by omega, fun _ => by omega⟩
def Neg (lon t : Int) : Prop := ∃ al ah, Ev (fun k => series_Angle.f k 775342092 2737909333333 sL 2000 t) (al, ah, 0) ∧ 0 ≤ al ∧ al < 1000000000 ∧ al ≤ ah ∧ ah ≤ al + 1000000000 ∧ sg al ah (lon % 1000000000) < 0
theorem neg_of {z lon t ds : Int} (h : it t = 0) (hs : Dp sL t ds) (y1 : -100000000 * 1048576 ≤ Y z lon t ds) (y2 : Y z lon t ds < -3000 * 1048576) : Neg lon t := by
 obtain ⟨al, ah, e1, _, a0, a1, a2, a3, z', z1, z2⟩ := sun_ang h hs
 obtain ⟨_, f, _, _⟩ := sg_Y (x := Y z lon t ds) (E := Ws t ds) (z := z) (lon := lon) rfl y1 (by omega) a2 a3 z1 z2
 refine ⟨al, ah, e1, a0, a1, by omega, by omega, ?_⟩
 rcases Int.lt_or_le (sg al ah (lon % 1000000000)) 0 with c | c
 ·exact c
 ·have := f (by omega)
  omega
end Go.Proofs.Ytmahlfjnejbcnaa.SunT
