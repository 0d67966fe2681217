/- EclipseFinds: the facts hold for all remainders. -/
import Derived.Test.YtmahlfjnejbcnaaEclipseFindsn19
import Derived.Test.YtmahlfjnejbcnaaEclipseFindsn41
import Derived.Test.YtmahlfjnejbcnaaEclipseFindsn42
namespace Go.Proofs.Ytmahlfjnejbcnaa.Pure
open Go Go.RowKit YtmahlfjnejbcnaaW.PrintWords YtmahlfjnejbcnaaW.PrintLast YtmahlfjnejbcnaaW.PrintMore PAll Base SinT Over Units Vals PhaseT EclT EclW
set_option linter.unusedVariables false
set_option linter.unusedSimpArgs false
theorem mag {T P sl sh z : Int} (hq : ∃ q, TP q T P) (s0 : 0 ≤ sl) (s1 : sl ≤ sh) (c : sh < P) (d : sh - sl ≤ 90800) (z0 : 0 ≤ z) (z1 : sl * 1048576 ≤ z + 160) (z2 : z ≤ sh * 1048576 + 160) :
  (P - sh) * 1000 / P * 1048576 ≤ (P * 1048576 - z) / P * 1000 + 4096 ∧ (P * 1048576 - z) / P * 1000 ≤ -(-((P - sl) * 1000) / P) * 1048576 + 4096 ∧ -(-((P - sl) * 1000) / P) - (P - sh) * 1000 / P ≤ 80 ∧ 0 ≤ (P - sh) * 1000 / P ∧ -(-((P - sl) * 1000) / P) ≤ 1000 ∧ 0 ≤ (P * 1048576 - z) / P + 1 ∧ (P * 1048576 - z) / P ≤ 1048576 ∧ 0 ≤ P * 1048576 - z + 200 ∧ (P - sh) * 1000 / P ≤ 1000 ∧ 0 ≤ -(-((P - sl) * 1000) / P) := by
 obtain ⟨q, ⟨_, _, rfl⟩ | ⟨_, _, rfl⟩⟩ := hq
 ·refine ⟨?_, ?_, ?_, ?_, ?_, ?_, ?_, ?_, ?_, ?_⟩ <;> omega
 ·refine ⟨?_, ?_, ?_, ?_, ?_, ?_, ?_, ?_, ?_, ?_⟩ <;> omega
theorem cont {lo hi b : Int} (l0 : -50000000000 ≤ lo) (l1 : lo ≤ 50000000000) (h0 : -50000000000 ≤ hi) (h1 : hi ≤ 50000000000) (c1 : lo * 1048576 ≤ b + 160) (c2 : b ≤ hi * 1048576 + 160) : ephemerisref2_Contains.f lo hi b 0 = some true := by
 unfold ephemerisref2_Contains.f
 rw [w64 (x := lo * 1048576) (by omega) (by omega), w64 (x := 0 * 1048576) (by omega) (by omega), w64 (x := b - 0 * 1048576) (by omega) (by omega), w64 (x := b - 0 * 1048576 + 8192) (by omega) (by omega), if_pos (by omega), w64 (x := b + 0 * 1048576) (by omega) (by omega), w64 (x := hi * 1048576) (by omega) (by omega), w64 (x := hi * 1048576 + 8192) (by omega) (by omega)]
 exact congrArg some (decide_eq_true (by omega))
theorem tail {a x y lo hi sl sh T P : Int} (hq : ∃ q, TP q T P) (hx : it x = 0) (hy : it y = 0) (xy : x ≤ y) (wd : y - x ≤ 600000) (w2 : hi - lo ≤ 90800) (l0 : -50000000000 ≤ lo) (l1 : lo ≤ hi) (h1 : hi ≤ 50000000000) (s0 : 0 ≤ sl) (s1 : sl ≤ sh) (s2 : sh ≤ 50000000000) (s3 : sh - sl ≤ 90800)
  (H : ∀ t m, x ≤ t → t ≤ y → -8 ≤ m → m ≤ 8 → ∃ b, Ev (fun k => ephemerisref2_MoonLat.f k t m) b ∧ lo * 1048576 ≤ b + 160 ∧ b ≤ hi * 1048576 + 160 ∧ sl * 1048576 ≤ mx b (-b) + 160 ∧ mx b (-b) ≤ sh * 1048576 + 160) :
  Ev (fun k => ephemerislaw2_EclipseFinds.j1 k a (eres x y lo hi sl sh T P).2.2.2.2.2.2.2 T P (eres x y lo hi sl sh T P).1 (eres x y lo hi sl sh T P).2.1 (eres x y lo hi sl sh T P).2.2.1 (eres x y lo hi sl sh T P).2.2.2.1 (eres x y lo hi sl sh T P).2.2.2.2.1 (eres x y lo hi sl sh T P).2.2.2.2.2.1 (eres x y lo hi sl sh T P).2.2.2.2.2.2.1 x y) true := by
 obtain ⟨a1, a2⟩ := it_zero hx
 obtain ⟨a3, a4⟩ := it_zero hy
 have bT : 0 < T ∧ T + 1000000 ≤ P ∧ P ≤ 4100000 := by obtain ⟨q, ⟨_, rfl, rfl⟩ | ⟨_, rfl, rfl⟩⟩ := hq <;> omega
 obtain ⟨t, ht, t0, t1⟩ := at_ok (k := a) (n := y - x + 1) (by omega) (by omega)
 obtain ⟨m, hm, m0, m1⟩ := at_ok (k := a) (n := 17) (by omega) (by omega)
 obtain ⟨b, hb, b1, b2, b3, b4⟩ := H (x + t) (m - 8) (by omega) (by omega) (by omega) (by omega)
 have bb : -53000000000000000 ≤ b ∧ b ≤ 53000000000000000 := by omega
 have zb : 0 ≤ mx b (-b) := by unfold mx; split <;> omega
 have zc : mx b (-b) ≤ 53000000000000000 := by omega
 have nb : wrap64 (-b) = -b := w64 (by omega) (by omega)
 have hc := cont l0 (by omega) (by omega) h1 b1 b2
 refine ev_step 1 (fun k => by rw [ephemerislaw2_EclipseFinds.j1, w64 (x := y - x) (by omega) (by omega), w64 (x := y - x + 1) (by omega) (by omega), ht, Option.bind_some, hm, Option.bind_some, w64 (x := x + t) (by omega) (by omega), w64 (x := m - 8) (by omega) (by omega)]) ?_
 refine ev_bind hb ?_
 rw [nb]
 generalize mx b (-b) = z at *
 have wP : wrap64 (P * 1048576) = P * 1048576 := w64 (by omega) (by omega)
 have wT : wrap64 (T * 1048576) = T * 1048576 := w64 (by omega) (by omega)
 have good : ∀ kd ml mh : Int, (if z < T * 1048576 then 2 else if z < P * 1048576 then 1 else 0) = kd →
   (kd = 0 → ml = 0 ∧ mh = 0) → (kd ≠ 0 → ml * 1048576 ≤ (P * 1048576 - z) / P * 1000 + 4096 ∧ (P * 1048576 - z) / P * 1000 ≤ mh * 1048576 + 4096 ∧ mh - ml ≤ 80 ∧ 0 ≤ ml ∧ mh ≤ 1000 ∧ ml ≤ 1000 ∧ 0 ≤ mh ∧ 0 ≤ (P * 1048576 - z) / P + 1 ∧ (P * 1048576 - z) / P ≤ 1048576 ∧ 0 ≤ P * 1048576 - z) →
   Ev (fun k => if (0 : Int) = 0 then (if z < wrap64 (P * 1048576) then ephemerislaw2_EclipseFinds.j2 k T P b z 1 kd x y lo hi ml mh x y else ephemerislaw2_EclipseFinds.j2 k T P b z 0 kd x y lo hi ml mh x y) else some false) true := by
  intro kd ml mh hk g0 g1
  rw [wP]
  refine Ev.congr (fun k => if_pos rfl) ?_
  have j3 : Ev (fun k => ephemerislaw2_EclipseFinds.j3 k P b z kd kd x y lo hi ml mh x y) true := by
   have n1 : ¬ ((!(x == x) || (!(y == y))) = true) := by simp
   refine ev_step 1 (fun k => by rw [ephemerislaw2_EclipseFinds.j3, if_neg n1, if_pos rfl, hc, Option.bind_some, if_pos rfl, w64 (x := hi - lo) (by omega) (by omega), decide_eq_false (by omega)]) ?_
   refine ev_some 1 fun k => ?_
   rw [ephemerislaw2_EclipseFinds.j4, if_neg (by simp)]
   by_cases c : kd = 0
   ·obtain ⟨rfl, rfl⟩ := g0 c
    rw [if_pos c]
    rfl
   ·obtain ⟨k1, k2, k3, k4, k5, k6, k7, k8, k9, k10⟩ := g1 c
    rw [if_neg c, if_neg (show ¬ P = 0 by omega), wP, w64 (x := P * 1048576 - z) (by omega) (by omega), Int.tdiv_eq_ediv_of_nonneg k10]
    generalize (P * 1048576 - z) / P = g at *
    rw [w64 (x := g) (by omega) (by omega), w64 (x := g * 1000) (by omega) (by omega), w64 (x := g * 1000 + 4096) (by omega) (by omega), w64 (x := ml * 1048576) (by omega) (by omega), if_pos k1, w64 (x := mh * 1048576) (by omega) (by omega), w64 (x := mh * 1048576 + 4096) (by omega) (by omega), if_pos k2, w64 (x := mh - ml) (by omega) (by omega)]
    exact congrArg some (decide_eq_true k3)
  by_cases c1 : z < T * 1048576
  ·rw [if_pos c1] at hk
   subst hk
   refine Ev.congr (fun k => if_pos (show z < P * 1048576 by omega)) ?_
   exact ev_step 1 (fun k => by rw [ephemerislaw2_EclipseFinds.j2, wT, if_pos c1]) j3
  ·rw [if_neg c1] at hk
   by_cases c2 : z < P * 1048576
   ·rw [if_pos c2] at hk
    subst hk
    refine Ev.congr (fun k => if_pos c2) ?_
    exact ev_step 1 (fun k => by rw [ephemerislaw2_EclipseFinds.j2, wT, if_neg c1]) j3
   ·rw [if_neg c2] at hk
    subst hk
    refine Ev.congr (fun k => if_neg c2) ?_
    exact ev_step 1 (fun k => by rw [ephemerislaw2_EclipseFinds.j2, wT, if_neg c1]) j3
 have open_ : (T ≤ sh ∧ sl ≤ T ∨ P ≤ sh ∧ sl ≤ P) → Ev (fun k => if (11 : Int) = 0 then (if z < wrap64 (P * 1048576) then ephemerislaw2_EclipseFinds.j2 k T P b z 1 0 0 0 0 0 0 0 x y else ephemerislaw2_EclipseFinds.j2 k T P b z 0 0 0 0 0 0 0 0 x y) else (if (11 : Int) = 11 then (if ((0 : Int) == 0 && (((0 : Int) == 0 && ((0 : Int) == 0)) && (((0 : Int) == 0 && ((0 : Int) == 0)) && (((0 : Int) == 0 && ((0 : Int) == 0)))))) = true then (if (mx (wrap64 (z - (wrap64 (T * 1048576)))) (wrap64 (-(wrap64 (z - (wrap64 (T * 1048576))))))) < 104857600000 then (some true) else (some (decide ((mx (wrap64 (z - (wrap64 (P * 1048576)))) (wrap64 (-(wrap64 (z - (wrap64 (P * 1048576))))))) < 104857600000)))) else (some false)) else (some false))) true := by
  intro h
  refine ev_some 0 fun k => ?_
  have z0 : ((0 : Int) == 0 && (((0 : Int) == 0 && ((0 : Int) == 0)) && (((0 : Int) == 0 && ((0 : Int) == 0)) && (((0 : Int) == 0 && ((0 : Int) == 0)))))) = true := by decide
  rw [if_neg (by decide), if_pos rfl, if_pos z0, wT, wP, w64 (x := z - T * 1048576) (by omega) (by omega), w64 (x := -(z - T * 1048576)) (by omega) (by omega), w64 (x := z - P * 1048576) (by omega) (by omega), w64 (x := -(z - P * 1048576)) (by omega) (by omega)]
  by_cases c : mx (z - T * 1048576) (-(z - T * 1048576)) < 104857600000
  ·rw [if_pos c]
  ·rw [if_neg c]
   refine congrArg some (decide_eq_true ?_)
   rcases h with h | h
   ·exfalso
    refine c ?_
    unfold mx
    split <;> omega
   ·unfold mx
    split <;> omega
 unfold eres
 by_cases c1 : sl > P
 ·simp only [if_pos c1]
  exact good 0 0 0 (by rw [if_neg (by omega), if_neg (by omega)]) (fun _ => ⟨rfl, rfl⟩) (fun h => absurd rfl h)
 simp only [if_neg c1]
 by_cases c2 : sh < T
 ·simp only [if_pos c2]
  have mg := mag hq s0 s1 (show sh < P by omega) s3 zb b3 b4
  exact good 2 _ _ (by rw [if_pos (by omega)]) (fun h => absurd h (by decide)) (fun _ => ⟨mg.1, mg.2.1, mg.2.2.1, mg.2.2.2.1, mg.2.2.2.2.1, mg.2.2.2.2.2.2.2.2.1, mg.2.2.2.2.2.2.2.2.2, mg.2.2.2.2.2.1, mg.2.2.2.2.2.2.1, by omega⟩)
 simp only [if_neg c2]
 by_cases c3 : sl > T
 ·simp only [if_pos c3]
  by_cases c4 : sh < P
  ·simp only [if_pos c4]
   have mg := mag hq s0 s1 c4 s3 zb b3 b4
   exact good 1 _ _ (by rw [if_neg (by omega), if_pos (by omega)]) (fun h => absurd h (by decide)) (fun _ => ⟨mg.1, mg.2.1, mg.2.2.1, mg.2.2.2.1, mg.2.2.2.2.1, mg.2.2.2.2.2.2.2.2.1, mg.2.2.2.2.2.2.2.2.2, mg.2.2.2.2.2.1, mg.2.2.2.2.2.2.1, by omega⟩)
  ·simp only [if_neg c4]
   exact open_ (.inr ⟨by omega, by omega⟩)
 ·simp only [if_neg c3]
  exact open_ (.inl ⟨by omega, by omega⟩)
theorem EclipseFinds : ephemerislaw2_EclipseFinds.Pure := by
 intro L q a wL wq wa
 refine ev_k (g := fun k => ephemerislaw2_EclipseFinds.f k L q a) ?_
 unfold ephemerislaw2_EclipseFinds.f
 refine ev_bind eclipse_works ?_
 refine Ev.congr (fun k => if_pos rfl) ?_
 by_cases hq : q = 0 ∨ q = 2
 ·have e : ∀ (k : Nat) (r : Int × Int × Int × Int × Int × Int × Int × Int), (if q = 0 then ephemerislaw2_EclipseFinds.j0 k L q a r.2.2.2.2.2.2.2 false r.1 r.2.1 r.2.2.1 r.2.2.2.1 r.2.2.2.2.1 r.2.2.2.2.2.1 r.2.2.2.2.2.2.1 else ephemerislaw2_EclipseFinds.j0 k L q a r.2.2.2.2.2.2.2 (q != 2) r.1 r.2.1 r.2.2.1 r.2.2.2.1 r.2.2.2.2.1 r.2.2.2.2.2.1 r.2.2.2.2.2.2.1) = ephemerislaw2_EclipseFinds.j0 k L q a r.2.2.2.2.2.2.2 false r.1 r.2.1 r.2.2.1 r.2.2.2.1 r.2.2.2.2.1 r.2.2.2.2.2.1 r.2.2.2.2.2.2.1 := by
   intro k r
   rcases hq with rfl | rfl
   ·rfl
   ·rfl
  by_cases hL : L < -100000 ∨ 100000 < L
  ·refine ev_bind (efind_range hq hL) ?_
   refine Ev.congr (fun k => e k (0, 0, 0, 0, 0, 0, 0, 3)) ?_
   refine ev_step 1 (fun k => by rw [ephemerislaw2_EclipseFinds.j0, if_neg (by simp)]) ?_
   refine ev_bind (find_range (by omega) (by omega) hL) (ev_some 0 fun k => ?_)
   dsimp only
   rw [if_neg (by decide), if_pos rfl]
   rfl
  ·obtain ⟨T, P, hTP⟩ : ∃ T P, TP q T P := by
    rcases hq with h | h
    ·exact ⟨_, _, .inl ⟨h, rfl, rfl⟩⟩
    ·exact ⟨_, _, .inr ⟨h, rfl, rfl⟩⟩
   obtain ⟨x, y, lo, hi, sl, sh, ep, ee, hx, hy, xy, wd, w2, l0, l1, h1, s0, s1, s2, s3, H⟩ := efind_ev (L := L) (q := q) (by omega) (by omega) hTP
   have tl := tail (a := a) ⟨q, hTP⟩ hx hy xy wd w2 l0 l1 h1 s0 s1 s2 s3 H
   refine ev_bind ee ?_
   generalize eres x y lo hi sl sh T P = r at *
   refine Ev.congr (fun k => e k r) ?_
   refine ev_step 1 (fun k => by rw [ephemerislaw2_EclipseFinds.j0, if_neg (by simp)]) ?_
   refine ev_bind ep ?_
   refine Ev.congr (fun k => if_pos rfl) ?_
   rcases hTP with ⟨rfl, rfl, rfl⟩ | ⟨rfl, rfl, rfl⟩
   ·exact Ev.congr (fun k => if_neg (by decide)) tl
   ·exact Ev.congr (fun k => if_pos rfl) tl
 ·have h0 : q ≠ 0 := fun h => hq (.inl h)
  have h2 : q ≠ 2 := fun h => hq (.inr h)
  have e2 : (q != 2) = true := by simp [h2]
  refine ev_bind (efind_arg h0 h2) (ev_some 1 fun k => ?_)
  dsimp only
  rw [if_neg h0, e2, ephemerislaw2_EclipseFinds.j0, if_pos rfl, if_pos rfl]
  rfl
end Go.Proofs.Ytmahlfjnejbcnaa.Pure
