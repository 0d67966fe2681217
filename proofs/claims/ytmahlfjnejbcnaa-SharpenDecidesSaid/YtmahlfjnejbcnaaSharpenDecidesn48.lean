/- SharpenDecides: Decide tells the order of a season and a phase for all remainders. -/
import Derived.Test.YtmahlfjnejbcnaaSharpenDecidesn47
namespace Go.Proofs.Ytmahlfjnejbcnaa.Pure
open Go Go.RowKit YtmahlfjnejbcnaaW.PrintWords YtmahlfjnejbcnaaW.PrintLast YtmahlfjnejbcnaaW.PrintMore PAll Base SinT Over Vals PhaseT SunT SharpT
set_option linter.unusedVariables false
set_option linter.unusedSimpArgs false
def Said (a b c d : Int) (r : Int × Int) : Prop := r = (0, 11) ∨ r = (1, 0) ∧ b > c ∨ r = (-1, 0) ∧ a < d
theorem rounds {q y L p a b c d : Int}
  (hS : ∀ wd, 1 ≤ wd → ∃ x w e, Ev (fun k => sharpen_Season.f k q y wd) (x, w, e) ∧ (e = 0 ∧ a ≤ x ∧ x ≤ w ∧ w ≤ b ∨ e = 11))
  (hP : ∀ wd, 1 ≤ wd → ∃ x w e, Ev (fun k => sharpen_Phase.f k L p wd) (x, w, e) ∧ (e = 0 ∧ c ≤ x ∧ x ≤ w ∧ w ≤ d ∨ e = 11))
  (a1 : -400000000000000 ≤ a) (b1 : b ≤ 400000000000000) (c1 : -400000000000000 ≤ c) (d1 : d ≤ 400000000000000) : ∀ (n : Nat) (wd : Int), wd.toNat ≤ n → wd ≤ 1000000000 → 0 ≤ wd → ∃ r, Ev (fun k => sharpen_Decide.l0 k q y L p wd) r ∧ Said a b c d r := by
 intro n
 induction n with
 | zero =>
  intro wd h1 h2 h3
  exact ⟨(0, 11), ev_some 1 fun k => by rw [sharpen_Decide.l0, if_neg (by omega)], .inl rfl⟩
 | succ n ih =>
  intro wd h1 h2 h3
  by_cases cw : wd > 0
  ·obtain ⟨x, w, e, es, g⟩ := hS wd (by omega)
   obtain ⟨x', w', e', ep, g'⟩ := hP wd (by omega)
   rcases g with ⟨rfl, g1, g2, g3⟩ | rfl
   ·rcases g' with ⟨rfl, k1, k2, k3⟩ | rfl
    ·have er := earlier_ev x w x' w'
     rw [if_pos (sp_zero' (by omega) g2 (by omega)), if_pos (sp_zero' (by omega) k2 (by omega))] at er
     have st : ∀ r : Int × Int, Ev (fun k => if (if w < x' then ((-1 : Int), (0 : Int)) else if x > w' then (1, 0) else (0, 11)).2 = 0 then some ((if w < x' then ((-1 : Int), (0 : Int)) else if x > w' then (1, 0) else (0, 11)).1, (0 : Int)) else sharpen_Decide.l0 k q y L p (wrap64 (Int.tdiv wd 2))) r → Ev (fun k => sharpen_Decide.l0 k q y L p wd) r := by
      intro r hr
      refine ev_step 1 (fun k => by rw [sharpen_Decide.l0, if_pos cw]) ?_
      refine ev_bind es ?_
      refine Ev.congr (fun k => if_pos rfl) ?_
      refine ev_bind ep ?_
      refine Ev.congr (fun k => if_pos rfl) ?_
      exact ev_bind er hr
     by_cases z1 : w < x'
     ·exact ⟨(-1, 0), st _ (ev_some 0 fun k => by simp [z1]), .inr (.inr ⟨rfl, by omega⟩)⟩
     ·by_cases z2 : x > w'
      ·exact ⟨(1, 0), st _ (ev_some 0 fun k => by simp [z1, z2]), .inr (.inl ⟨rfl, by omega⟩)⟩
      ·obtain ⟨r, hr, hs⟩ := ih (wd / 2) (by omega) (by omega) (by omega)
       refine ⟨r, st _ ?_, hs⟩
       refine Ev.congr (fun k => ?_) hr
       rw [if_neg z1, if_neg z2, if_neg (by decide), Int.tdiv_eq_ediv_of_nonneg h3, w64 (x := wd / 2) (by omega) (by omega)]
    ·refine ⟨(0, 11), ?_, .inl rfl⟩
     refine ev_step 1 (fun k => by rw [sharpen_Decide.l0, if_pos cw]) ?_
     refine ev_bind es ?_
     refine Ev.congr (fun k => if_pos rfl) ?_
     refine ev_bind ep ?_
     exact ev_some 0 fun k => if_neg (show ¬ ((11 : Int) = 0) by decide)
   ·refine ⟨(0, 11), ?_, .inl rfl⟩
    refine ev_step 1 (fun k => by rw [sharpen_Decide.l0, if_pos cw]) ?_
    refine ev_bind es ?_
    exact ev_some 0 fun k => if_neg (show ¬ ((11 : Int) = 0) by decide)
  ·exact ⟨(0, 11), ev_some 1 fun k => by rw [sharpen_Decide.l0, if_neg cw], .inl rfl⟩
theorem SharpenDecides : ephemerislaw2_SharpenDecides.Pure := by
 intro q y L p wq wy wL wp
 refine ev_k (g := fun k => ephemerislaw2_SharpenDecides.f k q y L p) ?_
 unfold ephemerislaw2_SharpenDecides.f
 refine ev_bind sharpen_works ?_
 refine Ev.congr (fun k => if_pos rfl) ?_
 rcases sfind_any q y with ⟨e, he, hf⟩ | ⟨q1, q2, a, b, lon, z, v, u, hf, hl, ia, ib, ab, ab2, ta, vn, tb, up⟩
 ·have hd : Ev (fun k => sharpen_Decide.f k q y L p) (0, e) := by
   unfold sharpen_Decide.f
   refine ev_step 1 (fun k => by rw [sharpen_Decide.l0, if_pos (by omega)]) ?_
   refine ev_bind (sharp_season_err hf he) ?_
   exact ev_some 0 fun k => if_neg he
  obtain ⟨r, hr⟩ : ∃ r, Ev (fun k => phase_Find.f k L p) r := by
   rcases pfind_any L p with ⟨e, _, h⟩ | ⟨_, _, _, _, x, w, v, u, h, _⟩ <;> exact ⟨_, h⟩
  refine ev_bind hd (ev_bind hf (ev_bind hr (ev_some 0 fun k => ?_)))
  dsimp only
  rw [if_neg he, if_pos rfl]
  rfl
 obtain ⟨s1, s2⟩ := it_zero ia
 obtain ⟨s3, s4⟩ := it_zero ib
 obtain ⟨x, w, e, es, _, hid⟩ := sharp_season hf hl q1 q2 ia ib ab ta vn tb up (wd := 600000) (by omega)
 obtain ⟨rfl, rfl, rfl⟩ := hid ab2
 rcases pfind_any L p with ⟨e, he, hp⟩ | ⟨l1, l2, p1, p2, c, d, v', u', hp, c1, cd, d1, cd2, tc, vn', td, up'⟩
 ·have hd : Ev (fun k => sharpen_Decide.f k q y L p) (0, e) := by
   unfold sharpen_Decide.f
   refine ev_step 1 (fun k => by rw [sharpen_Decide.l0, if_pos (by omega)]) ?_
   refine ev_bind es ?_
   refine Ev.congr (fun k => if_pos rfl) ?_
   refine ev_bind (sharp_phase_err hp he) ?_
   exact ev_some 0 fun k => if_neg he
  refine ev_bind hd (ev_bind hf (ev_bind hp (ev_some 0 fun k => ?_)))
  dsimp only
  rw [if_pos rfl, if_neg he, if_pos rfl]
  rfl
 obtain ⟨x', w', e', ep, _, hid'⟩ := sharp_phase hp l1 l2 p1 p2 (by omega) (by omega) cd tc vn' td up' (wd := 600000) (by omega)
 obtain ⟨rfl, rfl, rfl⟩ := hid' cd2
 have mb : -256000000000000 ≤ md L p ∧ md L p ≤ 256000000000000 := by unfold md; omega
 have er := earlier_ev x w x' w'
 rw [if_pos (sp_zero' (by omega) ab (by omega)), if_pos (sp_zero' (by omega) cd (by omega))] at er
 have st : ∀ r : Int × Int, Ev (fun k => if (if w < x' then ((-1 : Int), (0 : Int)) else if x > w' then (1, 0) else (0, 11)).2 = 0 then some ((if w < x' then ((-1 : Int), (0 : Int)) else if x > w' then (1, 0) else (0, 11)).1, (0 : Int)) else sharpen_Decide.l0 k q y L p (wrap64 (Int.tdiv 600000 2))) r → Ev (fun k => sharpen_Decide.f k q y L p) r := by
  intro r hr
  unfold sharpen_Decide.f
  refine ev_step 1 (fun k => by rw [sharpen_Decide.l0, if_pos (by omega)]) ?_
  refine ev_bind es ?_
  refine Ev.congr (fun k => if_pos rfl) ?_
  refine ev_bind ep ?_
  refine Ev.congr (fun k => if_pos rfl) ?_
  exact ev_bind er hr
 by_cases z1 : w < x'
 ·refine ev_bind (st (-1, 0) (ev_some 0 fun k => by simp [z1])) (ev_bind hf (ev_bind hp (ev_some 0 fun k => ?_)))
  dsimp only
  rw [if_pos rfl, if_pos rfl, if_pos z1, if_pos rfl]
  rfl
 by_cases z2 : x > w'
 ·refine ev_bind (st (1, 0) (ev_some 0 fun k => by simp [z1, z2])) (ev_bind hf (ev_bind hp (ev_some 0 fun k => ?_)))
  dsimp only
  rw [if_pos rfl, if_pos rfl, if_neg z1, if_pos z2, if_pos rfl]
  rfl
 obtain ⟨r, hr, hs⟩ := rounds (q := q) (y := y) (L := L) (p := p) (a := x) (b := w) (c := x') (d := w')
  (fun wd h => by
   obtain ⟨x1, w1, e1, h1, h2, _⟩ := sharp_season hf hl q1 q2 ia ib ab ta vn tb up (wd := wd) h
   refine ⟨x1, w1, e1, h1, ?_⟩
   rcases h2 with ⟨rfl, g1, g2, g3, _⟩ | ⟨rfl, _⟩
   ·exact .inl ⟨rfl, g1, g2, g3⟩
   ·exact .inr rfl)
  (fun wd h => by
   obtain ⟨x1, w1, e1, h1, h2, _⟩ := sharp_phase hp l1 l2 p1 p2 (by omega) (by omega) cd tc vn' td up' (wd := wd) h
   refine ⟨x1, w1, e1, h1, ?_⟩
   rcases h2 with ⟨rfl, g1, g2, g3, _⟩ | ⟨rfl, _⟩
   ·exact .inl ⟨rfl, g1, g2, g3⟩
   ·exact .inr rfl) (by omega) (by omega) (by omega) (by omega) 300000 300000 (by decide) (by omega) (by omega)
 have h6 : wrap64 (Int.tdiv 600000 2) = 300000 := by decide +kernel
 refine ev_bind (st r ?_) (ev_bind hf (ev_bind hp (ev_some 0 fun k => ?_)))
 ·refine Ev.congr (fun k => ?_) hr
  rw [if_neg z1, if_neg z2, if_neg (by decide), h6]
 ·dsimp only
  rw [if_pos rfl, if_pos rfl, if_neg z1, if_neg z2]
  rcases hs with rfl | ⟨rfl, h⟩ | ⟨rfl, h⟩
  ·simp
  ·simp [h]
  ·simp [h]
end Go.Proofs.Ytmahlfjnejbcnaa.Pure
