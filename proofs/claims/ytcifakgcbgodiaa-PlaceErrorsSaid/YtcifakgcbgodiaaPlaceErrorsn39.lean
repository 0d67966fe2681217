/- PlaceErrors: Height has the errors of the document. -/
import Derived.Test.YtcifakgcbgodiaaPlaceErrorsn2
import Derived.Test.YtcifakgcbgodiaaPlaceErrorsn17
import Derived.Test.YtcifakgcbgodiaaPlaceErrorsn18
import Derived.Test.YtcifakgcbgodiaaPlaceErrorsn20
import Derived.Test.YtcifakgcbgodiaaPlaceErrorsn38
namespace Go.Proofs.Ytcifakgcbgodiaa.Pure
open Go Go.RowKit Go.Proofs.YtcifakgcbgodiaaW.PrintWords Go.Proofs.YtcifakgcbgodiaaW.PrintLast Go.Proofs.YtcifakgcbgodiaaW.PrintMore Go.Proofs.Ytcifakgcbgodiaa.Opn Go.Proofs.Ytcifakgcbgodiaa.PAll Go.Proofs.Ytcifakgcbgodiaa.Base Go.Proofs.Ytcifakgcbgodiaa.Over Go.Proofs.Ytcifakgcbgodiaa.Units Go.Proofs.Ytcifakgcbgodiaa.Args Go.Proofs.Ytcifakgcbgodiaa.SumsT Go.Proofs.Ytcifakgcbgodiaa.Vals Go.Proofs.Ytcifakgcbgodiaa.SkyT Go.Proofs.Ytcifakgcbgodiaa.PlaceT
set_option linter.unusedVariables false
set_option linter.unusedSimpArgs false
theorem place_works : Ev (fun k => ephemerislaw2_placeWorks.f k) true := Ev.of ephemerislaw2_placeWorks.mono (k := 100) (by decide +kernel)
theorem spanErr_at (k : Nat) (a b : Int) : ephemerisref2_SpanErr.f (k + 1) a b = some (sp a b) := by
  unfold ephemerisref2_SpanErr.f sp
  by_cases c1 : a < -1000000000000000000
  · simp [c1, ephemerisref2_SpanErr.j0]
  by_cases c2 : a > 1000000000000000000
  · simp [c1, c2, ephemerisref2_SpanErr.j0]
  by_cases c3 : b < -1000000000000000000
  · simp [c1, c2, c3, ephemerisref2_SpanErr.j0]
  by_cases c4 : b > 1000000000000000000
  · simp [c1, c2, c3, c4, ephemerisref2_SpanErr.j0]
  by_cases c5 : b < a
  · simp [c1, c2, c3, c4, c5, ephemerisref2_SpanErr.j0]
  · simp [c1, c2, c3, c4, c5, ephemerisref2_SpanErr.j0]
theorem spanErr_ev (a b : Int) : Ev (fun k => ephemerisref2_SpanErr.f k a b) (sp a b) := ev_some 1 fun k => spanErr_at k a b
theorem twoErr_ev (a b c d : Int) : Ev (fun k => ephemerisref2_TwoErr.f k a b c d) (if sp a b = 0 then sp c d else sp a b) := by
  unfold ephemerisref2_TwoErr.f
  refine ev_bind (spanErr_ev a b) ?_
  by_cases h : sp a b = 0
  · simp only [if_pos h]
    exact ev_bind (spanErr_ev c d) (ev_some 0 fun k => rfl)
  · simp only [if_neg h]
    exact ev_some 0 fun k => rfl
/-- the last part of the law -/
theorem last_bad (a b e : Int) (h : e ≠ 0) (x y : Int) (hx : x = 0) (hy : y = 0) : Ev (fun k => ephemerislaw2_PlaceErrors.j3 k e e x y) true := by
  subst hx hy
  exact ev_some 1 fun k => by rw [ephemerislaw2_PlaceErrors.j3, if_neg h, none_at, Option.bind_some]
theorem last_ok {L H : Int} (h1 : L ≤ H) (h2 : -1000000000 ≤ L) (h3 : H ≤ 1000000000) : Ev (fun k => ephemerislaw2_PlaceErrors.j3 k 0 0 L H) true :=
  ev_some 1 fun k => by rw [ephemerislaw2_PlaceErrors.j3, if_pos rfl, if_pos rfl, if_pos h1, beyond_no h2 (by omega), Option.bind_some, if_neg (by simp), beyond_no (by omega) h3, Option.bind_some]; rfl
/-- the range of the angles -/
theorem range_ev {E r0 r1 d0 d1 x y : Int} (h : Ev (fun k => ephemerislaw2_PlaceErrors.j3 k E (if d0 < -250000000 ∨ d1 > 250000000 ∨ r0 < -1000000000 ∨ r1 > 3000000000 then 3 else 0) x y) true) :
    Ev (fun k => ephemerislaw2_PlaceErrors.j1 k E 0 r0 r1 d0 d1 x y) true := by
  refine ev_step 2 (fun k => ?_) h
  rw [ephemerislaw2_PlaceErrors.j1, if_pos rfl]
  by_cases c1 : d0 < -250000000
  · simp [c1, ephemerislaw2_PlaceErrors.j2]
  by_cases c2 : d1 > 250000000
  · simp [c1, c2, ephemerislaw2_PlaceErrors.j2]
  by_cases c3 : r0 < -1000000000
  · simp [c1, c2, c3, ephemerislaw2_PlaceErrors.j2]
  by_cases c4 : r1 > 3000000000
  · simp [c1, c2, c3, c4, ephemerislaw2_PlaceErrors.j2]
  · simp [c1, c2, c3, c4, ephemerislaw2_PlaceErrors.j2]
theorem early_ev {E X r0 r1 d0 d1 x y : Int} (hX : X ≠ 0) (h : Ev (fun k => ephemerislaw2_PlaceErrors.j3 k E X x y) true) : Ev (fun k => ephemerislaw2_PlaceErrors.j1 k E X r0 r1 d0 d1 x y) true :=
  ev_step 2 (fun k => by rw [ephemerislaw2_PlaceErrors.j1, if_neg hX, ephemerislaw2_PlaceErrors.j2, if_neg (by simp)]) h
theorem PlaceErrors : PureX := by
  intro s r d t hs hr hd ht
  refine ev_k (g := fun k => ephemerislaw2_PlaceErrors.f k s.f0 s.f1 r.f0 r.f1 d.f0 d.f1 t) ?_
  unfold ephemerislaw2_PlaceErrors.f
  refine ev_bind place_works ?_
  refine Ev.congr (fun k => if_pos rfl) ?_
  have key : ∀ E x y : Int, E = he s.f0 s.f1 r.f0 r.f1 d.f0 d.f1 t → (E = 0 → x ≤ y ∧ -1000000000 ≤ x ∧ y ≤ 1000000000) → (E ≠ 0 → x = 0 ∧ y = 0) →
      Ev (fun k => (ephemerisref2_PlaceErr.f s.f0 s.f1).bind fun t348 => (if t348 = 0 then ((ephemerisref2_InstantErr.f t).bind fun t349 => (ephemerislaw2_PlaceErrors.j0 k E t349 r.f0 r.f1 d.f0 d.f1 x y)) else (ephemerislaw2_PlaceErrors.j0 k E t348 r.f0 r.f1 d.f0 d.f1 x y))) true := by
    intro E x y hE h0 h1
    have fin : ∀ X : Int, X = E → Ev (fun k => ephemerislaw2_PlaceErrors.j3 k E X x y) true := by
      intro X hX
      subst hX
      by_cases c : X = 0
      · obtain ⟨k1, k2, k3⟩ := h0 c
        rw [c]; exact last_ok k1 k2 k3
      · obtain ⟨k1, k2⟩ := h1 c
        exact last_bad x y X c x y k1 k2
    refine Ev.congr (fun k => by rw [placeErr_at, Option.bind_some]) ?_
    by_cases c1 : pe s.f0 s.f1 = 0
    · refine Ev.congr (fun k => by rw [if_pos c1, instErr_at, Option.bind_some]) ?_
      by_cases c2 : it t = 0
      · have tw := twoErr_ev r.f0 r.f1 d.f0 d.f1
        have go : Ev (fun k => (ephemerisref2_TwoErr.f k r.f0 r.f1 d.f0 d.f1).bind fun t350 => ephemerislaw2_PlaceErrors.j1 k E t350 r.f0 r.f1 d.f0 d.f1 x y) true := by
          refine ev_bind tw ?_
          by_cases c3 : sp r.f0 r.f1 = 0
          · simp only [if_pos c3]
            by_cases c4 : sp d.f0 d.f1 = 0
            · rw [c4]
              refine range_ev (fin _ ?_)
              rw [hE]; unfold he; simp [c1, c2, c3, c4]
            · refine early_ev c4 (fin _ ?_)
              rw [hE]; unfold he; simp [c1, c2, c3, c4]
          · simp only [if_neg c3]
            refine early_ev c3 (fin _ ?_)
            rw [hE]; unfold he; simp [c1, c2, c3]
        exact ev_step 1 (fun k => by rw [ephemerislaw2_PlaceErrors.j0, if_pos c2]) go
      · refine ev_step 1 (fun k => by rw [ephemerislaw2_PlaceErrors.j0, if_neg c2]) (early_ev c2 (fin _ ?_))
        rw [hE]; unfold he; simp [c1, c2]
    · refine Ev.congr (fun k => by rw [if_neg c1]) ?_
      refine ev_step 1 (fun k => by rw [ephemerislaw2_PlaceErrors.j0, if_neg c1]) (early_ev c1 (fin _ ?_))
      rw [hE]; unfold he; simp [c1]
  by_cases c : he s.f0 s.f1 r.f0 r.f1 d.f0 d.f1 t = 0
  · obtain ⟨sl, sh, cl, ch, dl, dh, el, eh, hl, hh, al, ah, bl, bh, ml, mh, e, _, _, _, _, _, a3, m3, _⟩ := height_ev c
    refine ev_bind e ?_
    have b1 := cl_bound (al + ml)
    have b2 := cl_bound (ah + mh)
    have b3 := (cl_mono (show al + ml ≤ ah + mh by omega)).1
    exact key 0 _ _ c.symm (fun _ => ⟨b3, b1.1, b2.2⟩) (fun h => absurd rfl h)
  · refine ev_bind (height_bad c) ?_
    exact key _ 0 0 rfl (fun h => absurd h c) (fun _ => ⟨rfl, rfl⟩)
end Go.Proofs.Ytcifakgcbgodiaa.Pure
