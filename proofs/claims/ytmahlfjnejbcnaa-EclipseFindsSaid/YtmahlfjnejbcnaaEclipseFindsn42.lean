/- eclipseWorks holds. -/
import Derived.Test.YtmahlfjnejbcnaaEclipseFindsn17
import Derived.Test.YtmahlfjnejbcnaaEclipseFindsn21
namespace Go.Proofs.Ytmahlfjnejbcnaa.EclW
open Go Go.RowKit YtmahlfjnejbcnaaW.PrintWords YtmahlfjnejbcnaaW.PrintLast YtmahlfjnejbcnaaW.PrintMore PAll Base
set_option linter.unusedVariables false
set_option linter.unusedSimpArgs false
set_option maxRecDepth 100000
def ok0 (n : Int) : Bool := match eclipse_Find.f 60 n 0 with | some r => decide (r.1 = 0 ∧ r.2.2.2.2.2.2.2 = 0) | none => false
def ok2 (n : Int) : Bool := match eclipse_Find.f 60 n 0 with | some r => decide (r.1 = 2 ∧ r.2.2.2.2.2.2.2 = 0 ∧ ephemerislaw2_has.f r.2.2.2.1 r.2.2.2.2.1 1695151 91000 = some true) | none => false
theorem e24714 : ok0 24714 = true := by decide +kernel
theorem e24715 : ok0 24715 = true := by decide +kernel
theorem e24716 : ok0 24716 = true := by decide +kernel
theorem e24717 : ok0 24717 = true := by decide +kernel
theorem e24718 : ok0 24718 = true := by decide +kernel
theorem e24719 : ok2 24719 = true := by decide +kernel
theorem of_ok0 {n : Int} (h : ok0 n = true) : ∃ r, Ev (fun k => eclipse_Find.f k n 0) r ∧ r.1 = 0 ∧ r.2.2.2.2.2.2.2 = 0 := by
 unfold ok0 at h
 cases hr : eclipse_Find.f 60 n 0 with
 | none => rw [hr] at h; cases h
 | some r =>
  rw [hr] at h
  have h' := of_decide_eq_true h
  exact ⟨r, Ev.of (eclipse_Find.mono _ _) hr, h'.1, h'.2⟩
theorem of_ok2 {n : Int} (h : ok2 n = true) : ∃ r, Ev (fun k => eclipse_Find.f k n 0) r ∧ r.1 = 2 ∧ r.2.2.2.2.2.2.2 = 0 ∧ ephemerislaw2_has.f r.2.2.2.1 r.2.2.2.2.1 1695151 91000 = some true := by
 unfold ok2 at h
 cases hr : eclipse_Find.f 60 n 0 with
 | none => rw [hr] at h; cases h
 | some r =>
  rw [hr] at h
  have h' := of_decide_eq_true h
  exact ⟨r, Ev.of (eclipse_Find.mono _ _) hr, h'.1, h'.2.1, h'.2.2⟩
theorem next_on {L i : Int} {s : Int × Int} (i1 : i < 24) (h : ok0 (L + i) = true) (i0 : 0 ≤ i) (l0 : 0 ≤ L) (l1 : L ≤ 1000000) (hs : Ev (fun k => eclipse_Next.l0 k L 0 (i + 1)) s) : Ev (fun k => eclipse_Next.l0 k L 0 i) s := by
 obtain ⟨r, hr, r1, r2⟩ := of_ok0 h
 refine ev_step 1 (fun k => by rw [eclipse_Next.l0, if_pos i1, w64 (x := L + i) (by omega) (by omega)]) ?_
 refine ev_bind hr ?_
 exact Ev.congr (fun k => by rw [if_pos r2, if_pos r1, w64 (x := i + 1) (by omega) (by omega)]) hs
theorem eclipse_works : Ev (fun k => ephemerislaw2_eclipseWorks.f k) true := by
 obtain ⟨r, hr, r1, r2, r3⟩ := of_ok2 e24719
 have hn : Ev (fun k => eclipse_Next.f k 24714 0) (24719, 0) := by
  unfold eclipse_Next.f
  refine next_on (by omega) e24714 (by omega) (by omega) (by omega) ?_
  refine next_on (by omega) e24715 (by omega) (by omega) (by omega) ?_
  refine next_on (by omega) e24716 (by omega) (by omega) (by omega) ?_
  refine next_on (by omega) e24717 (by omega) (by omega) (by omega) ?_
  refine next_on (by omega) e24718 (by omega) (by omega) (by omega) ?_
  refine ev_step 1 (fun k => by rw [eclipse_Next.l0, if_pos (by omega), show wrap64 (24714 + (0 + 1 + 1 + 1 + 1 + 1)) = 24719 by decide +kernel]) ?_
  refine ev_bind hr (ev_some 0 fun k => ?_)
  rw [if_pos r2, if_neg (by omega)]
 unfold ephemerislaw2_eclipseWorks.f
 refine ev_bind hr (ev_bind hn (ev_some 0 fun k => ?_))
 rw [if_pos r2, if_pos r1, r3, Option.bind_some, if_pos rfl, if_pos rfl]
 rfl
end Go.Proofs.Ytmahlfjnejbcnaa.EclW
