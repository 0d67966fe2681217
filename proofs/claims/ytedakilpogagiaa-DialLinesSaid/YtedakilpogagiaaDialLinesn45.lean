/- DialLines: a dial's lines contain the angles of the document, and are narrow. -/
import Derived.Test.YtedakilpogagiaaDialLinesn16
import Derived.Test.YtedakilpogagiaaDialLinesn44
namespace Go.Proofs.Ytedakilpogagiaa.Pure
open Go Go.RowKit Go.Proofs.YtedakilpogagiaaW.PrintWords Go.Proofs.YtedakilpogagiaaW.PrintLast Go.Proofs.YtedakilpogagiaaW.PrintMore Go.Proofs.Ytedakilpogagiaa.Opn Go.Proofs.Ytedakilpogagiaa.PAll Go.Proofs.Ytedakilpogagiaa.Base Go.Proofs.Ytedakilpogagiaa.DialT
set_option linter.unusedVariables false
set_option linter.unusedSimpArgs false
theorem dial_works : Ev (fun k => ephemerislaw2_dialWorks.f k) true := Ev.of ephemerislaw2_dialWorks.mono (k := 120) (by decide +kernel)
theorem none_at (e : Int) : ephemerislaw2_none.f 0 0 e e = some true := by unfold ephemerislaw2_none.f; simp
theorem beyond5 {a : Int} (h1 : -500000000 ≤ a) (h2 : a ≤ 500000000) : ephemerislaw2_beyond.f a 500000000 = some false := by
 unfold ephemerislaw2_beyond.f
 rw [w64 (x := -500000000) (by omega) (by omega), if_neg (by omega), show decide (a > 500000000) = false from decide_eq_false (by omega)]
theorem uniq {α : Type} {f : Nat → Option α} {a b : α} (h : Ev f a) (g : Ev f b) : a = b := by
 obtain ⟨K, hK⟩ := h
 obtain ⟨K', hK'⟩ := g
 have h1 := hK (max K K') (by omega)
 have h2 := hK' (max K K') (by omega)
 rw [h1] at h2
 exact Option.some.inj h2
def tl (g : Int → S23) : Nat → List S23
 | 0 => []
 | n + 1 => g (18 - (n : Int)) :: tl g n
theorem lines_at {a : Int} {g : Int → S23} (G : ∀ h, 6 ≤ h → h ≤ 18 → Ev (fun k => dial_Line.f k a h) ((g h).f0, (g h).f1, 0)) : ∀ (n : Nat) (xs : List S23), n ≤ 13 → xs.length ≤ 13 - n → Ev (fun k => dial_Lines.l0 k a xs (19 - (n : Int))) (xs ++ tl g n, 0) := by
 intro n
 induction n with
 | zero =>
  intro xs _ _
  exact ev_some 1 fun k => by rw [dial_Lines.l0, if_neg (by omega), tl, List.append_nil]
 | succ n ih =>
  intro xs h0 h1
  have e : (19 : Int) - ((n + 1 : Nat) : Int) = 18 - (n : Int) := by omega
  rw [e]
  refine ev_step 1 (fun k => by rw [dial_Lines.l0, if_pos (by omega)]) ?_
  refine ev_bind (G (18 - (n : Int)) (by omega) (by omega)) ?_
  refine Ev.congr (fun k => if_pos rfl) ?_
  refine Ev.congr (fun k => if_pos (by omega)) ?_
  rw [w64 (x := 18 - (n : Int) + 1) (by omega) (by omega), show 18 - (n : Int) + 1 = 19 - (n : Int) by omega]
  have r := ih (xs ++ [g (18 - (n : Int))]) (by omega) (by rw [List.length_append, List.length_singleton]; omega)
  rw [List.append_assoc] at r
  exact r
theorem tl_at (g : Int → S23) {h : Int} (h0 : 6 ≤ h) (h1 : h ≤ 18) : rd_T23 (tl g 13) (h - 6) = g h := by
 have : h = 6 ∨ h = 7 ∨ h = 8 ∨ h = 9 ∨ h = 10 ∨ h = 11 ∨ h = 12 ∨ h = 13 ∨ h = 14 ∨ h = 15 ∨ h = 16 ∨ h = 17 ∨ h = 18 := by omega
 rcases this with e | e | e | e | e | e | e | e | e | e | e | e | e <;> subst e <;> rfl
theorem tl_len (g : Int → S23) : ((tl g 13).length : Int) = 13 := rfl
theorem lines_ev {a : Int} (a0 : 10000000 ≤ a) (a1 : a ≤ 220000000) : ∃ g : Int → S23, (∀ h, 6 ≤ h → h ≤ 18 → Ev (fun k => dial_Line.f k a h) ((g h).f0, (g h).f1, 0)) ∧ Ev (fun k => dial_Lines.f k a) (tl g 13, 0) := by
 have H : ∀ h : Int, ∃ s : S23, 6 ≤ h → h ≤ 18 → Ev (fun k => dial_Line.f k a h) (s.f0, s.f1, 0) := by
  intro h
  by_cases c : 6 ≤ h ∧ h ≤ 18
  ·obtain ⟨g, e1, e2, e3⟩ := hang c.1 c.2
   obtain ⟨A, B, _, _, _, _, _, r, _⟩ := line_ev a0 a1 c.1 c.2 e1 e2 e3
   exact ⟨⟨A, B⟩, fun _ _ => r⟩
  ·exact ⟨z23, fun h0 h1 => absurd ⟨h0, h1⟩ c⟩
 refine ⟨fun h => Classical.choose (H h), fun h => Classical.choose_spec (H h), ?_⟩
 have r := lines_at (g := fun h => Classical.choose (H h)) (fun h => Classical.choose_spec (H h)) 13 [] (by omega) (by simp)
 unfold dial_Lines.f
 exact r
theorem DialLines : PureX := by
 intro a h wa wh
 refine ev_k ?_
 unfold ephemerislaw2_DialLines.f
 refine ev_bind dial_works ?_
 refine Ev.congr (fun k => if_pos rfl) ?_
 by_cases c : a < 10000000 ∨ a > 220000000
 ·have e1 := line_bad (a := a) (h := h) (e := 3) (if_pos c) (by decide)
  have e2 : Ev (fun k => dial_Lines.f k a) ([], 3) := by
   unfold dial_Lines.f
   refine ev_step 1 (fun k => by rw [dial_Lines.l0, if_pos (by omega)]) ?_
   refine ev_bind (line_bad (a := a) (h := 6) (e := 3) (if_pos c) (by decide)) ?_
   exact Ev.congr (fun k => if_neg (by decide)) (ev_some 0 fun k => rfl)
  refine ev_bind e1 (ev_bind e2 ?_)
  have j : Ev (fun k => ephemerislaw2_DialLines.j0 k a h 3 [] 3 true 0 0) true := by
   refine ev_step 1 (fun k => by rw [ephemerislaw2_DialLines.j0, if_pos rfl]) ?_
   refine ev_bind (ev_some 0 fun k => none_at 3) ?_
   exact Ev.congr (fun k => if_pos rfl) (Ev.congr (fun k => if_pos rfl) (ev_some 0 fun k => rfl))
  by_cases c1 : a < 10000000
  ·exact Ev.congr (fun k => if_pos c1) j
  ·refine Ev.congr (fun k => if_neg c1) ?_
   rw [show decide (a > 220000000) = true from decide_eq_true (by omega)]
   exact j
 ·obtain ⟨g, G, e2⟩ := lines_ev (a := a) (by omega) (by omega)
  by_cases c2 : h < 6 ∨ h > 18
  ·have e1 := line_bad (a := a) (h := h) (e := 1) (by rw [if_neg c, if_pos c2]) (by decide)
   refine ev_bind e1 (ev_bind e2 ?_)
   refine Ev.congr (fun k => if_neg (by omega)) ?_
   rw [show decide (a > 220000000) = false from decide_eq_false (by omega)]
   refine ev_step 1 (fun k => by rw [ephemerislaw2_DialLines.j0, if_neg (by decide), if_pos rfl]) ?_
   refine ev_step 1 (fun k => by rw [ephemerislaw2_DialLines.j1, if_neg (by rw [tl_len]; decide)]) ?_
   have j : Ev (fun k => ephemerislaw2_DialLines.j2 k a h 1 (tl g 13) true 0 0) true := by
    refine ev_step 1 (fun k => by rw [ephemerislaw2_DialLines.j2, if_pos rfl]) ?_
    exact ev_bind (ev_some 0 fun k => none_at 1) (ev_some 0 fun k => rfl)
   by_cases c3 : h < 6
   ·exact Ev.congr (fun k => if_pos c3) j
   ·refine Ev.congr (fun k => if_neg c3) ?_
    rw [show decide (h > 18) = true from decide_eq_true (by omega)]
    exact j
  ·obtain ⟨q, e3, e4, e5⟩ := hang (h := h) (by omega) (by omega)
   obtain ⟨A, B, sp, cp, sh, ch, m, e1, ⟨r1, r2⟩, ⟨r3, r4⟩, s1, s2, s3, s4⟩ := line_ev (a := a) (by omega) (by omega) (by omega) (by omega) e3 e4 e5
   have gg := tl_at g (h := h) (by omega) (by omega)
   have un := uniq (G h (by omega) (by omega)) e1
   obtain ⟨u1, u2⟩ := Prod.mk.inj un
   have u3 := (Prod.mk.inj u2).1
   refine ev_bind e1 (ev_bind e2 ?_)
   refine Ev.congr (fun k => if_neg (by omega)) ?_
   rw [show decide (a > 220000000) = false from decide_eq_false (by omega)]
   refine ev_step 1 (fun k => by rw [ephemerislaw2_DialLines.j0, if_neg (by decide), if_pos rfl]) ?_
   refine ev_step 1 (fun k => by rw [ephemerislaw2_DialLines.j1, if_neg (by rw [tl_len]; decide)]) ?_
   refine Ev.congr (fun k => if_neg (by omega)) ?_
   rw [show decide (h > 18) = false from decide_eq_false (by omega)]
   refine ev_step 1 (fun k => by rw [ephemerislaw2_DialLines.j2, if_neg (by decide), w64 (x := a * 1000000) (by omega) (by omega), e3, e4, w64 (x := q * 1000000) (by omega) (by omega)]) ?_
   refine ev_bind s1 (ev_bind s2 ?_)
   refine ev_bind (ev_some 0 fun k => RefT.mod_pos (a := A) (b := 1000000000) (by omega) (by omega)) ?_
   refine Ev.congr (fun k => if_pos rfl) ?_
   rw [w64 (x := h - 6) (by omega) (by omega), gg, u1, u3]
   refine Ev.congr (fun k => if_pos (by omega)) ?_
   refine Ev.congr (fun k => if_pos (by rw [tl_len]; omega)) ?_
   refine Ev.congr (fun k => if_pos (by simp)) ?_
   refine ev_bind (ev_some 0 fun k => beyond5 r1 r2) ?_
   refine Ev.congr (fun k => if_neg (by decide)) ?_
   refine Ev.congr (fun k => if_pos (by rw [w64 (x := B - A) (by omega) (by omega)]; exact r4)) ?_
   refine ev_bind (ev_some 0 fun k => s3) ?_
   rw [w64 (x := A % 1000000000 + B) (by omega) (by omega), w64 (x := A % 1000000000 + B - A) (by omega) (by omega)]
   exact ev_bind s4 (ev_some 0 fun k => rfl)
end Go.Proofs.Ytedakilpogagiaa.Pure
