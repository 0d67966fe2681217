/- EclipseNexts: Next is the first lunation with an eclipse. -/
import Derived.Test.YtmahlfjnejbcnaaEclipseNextsn38
import Derived.Test.YtmahlfjnejbcnaaEclipseNextsn39
namespace Go.Proofs.Ytmahlfjnejbcnaa.Pure
open Go Go.RowKit YtmahlfjnejbcnaaW.PrintWords YtmahlfjnejbcnaaW.PrintLast YtmahlfjnejbcnaaW.PrintMore PAll Base EclT EclW
set_option linter.unusedVariables false
set_option linter.unusedSimpArgs false
theorem rounds (L q : Int) : ∀ (n : Nat) (i : Int), 0 ≤ i → i + (n : Int) = 24 → ∃ r : Int × Int, Ev (fun k => eclipse_Next.l0 k L q i) r ∧ Ev (fun k => ephemerislaw2_EclipseNexts.l0 k L q r.1 r.2 i) true := by
 intro n
 induction n with
 | zero =>
  intro i h0 h
  exact ⟨(0, 6), ev_some 1 fun k => by rw [eclipse_Next.l0, if_neg (by omega)], ev_some 1 fun k => by rw [ephemerislaw2_EclipseNexts.l0, if_neg (by omega), if_pos rfl]; rfl⟩
 | succ n ih =>
  intro i h0 h
  obtain ⟨r, hr⟩ := efind_any (wrap64 (L + i)) q
  by_cases c : r.2.2.2.2.2.2.2 = 0
  ·by_cases c2 : r.1 = 0
   ·obtain ⟨s, s1, s2⟩ := ih (i + 1) (by omega) (by omega)
    refine ⟨s, ?_, ?_⟩
    ·refine ev_step 1 (fun k => by rw [eclipse_Next.l0, if_pos (by omega)]) ?_
     refine ev_bind hr ?_
     refine Ev.congr (fun k => by rw [if_pos c, if_pos c2, w64 (x := i + 1) (by omega) (by omega)]) s1
    ·refine ev_step 1 (fun k => by rw [ephemerislaw2_EclipseNexts.l0, if_pos (by omega)]) ?_
     refine ev_bind hr ?_
     refine Ev.congr (fun k => by rw [if_pos c, if_pos c2, w64 (x := i + 1) (by omega) (by omega)]) s2
   ·refine ⟨(wrap64 (L + i), 0), ?_, ?_⟩
    ·refine ev_step 1 (fun k => by rw [eclipse_Next.l0, if_pos (by omega)]) ?_
     exact ev_bind hr (ev_some 0 fun k => by rw [if_pos c, if_neg c2])
    ·refine ev_step 1 (fun k => by rw [ephemerislaw2_EclipseNexts.l0, if_pos (by omega)]) ?_
     exact ev_bind hr (ev_some 0 fun k => by rw [if_pos c, if_neg c2, if_pos rfl]; simp)
  ·refine ⟨(0, r.2.2.2.2.2.2.2), ?_, ?_⟩
   ·refine ev_step 1 (fun k => by rw [eclipse_Next.l0, if_pos (by omega)]) ?_
    exact ev_bind hr (ev_some 0 fun k => by rw [if_neg c])
   ·refine ev_step 1 (fun k => by rw [ephemerislaw2_EclipseNexts.l0, if_pos (by omega)]) ?_
    exact ev_bind hr (ev_some 0 fun k => by rw [if_neg c, if_pos rfl]; rfl)
theorem EclipseNexts : ephemerislaw2_EclipseNexts.Pure := by
 intro L q wL wq
 refine ev_k (g := fun k => ephemerislaw2_EclipseNexts.f k L q) ?_
 obtain ⟨r, r1, r2⟩ := rounds L q 24 0 (by omega) (by omega)
 unfold ephemerislaw2_EclipseNexts.f
 refine ev_bind eclipse_works ?_
 refine Ev.congr (fun k => if_pos rfl) ?_
 refine ev_bind (a := r) ?_ r2
 unfold eclipse_Next.f
 exact r1
end Go.Proofs.Ytmahlfjnejbcnaa.Pure
