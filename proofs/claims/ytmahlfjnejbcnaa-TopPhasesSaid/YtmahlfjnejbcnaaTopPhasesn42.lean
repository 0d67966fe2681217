/- TopPhases: between two new moons in a row the number is that of the first one, and the moon is lit more and more, then less and less. -/
import Derived.Test.YtmahlfjnejbcnaaTopPhasesn21
import Derived.Test.YtmahlfjnejbcnaaTopPhasesn41
namespace Go.Proofs.Ytmahlfjnejbcnaa.Pure
open Go Go.RowKit YtmahlfjnejbcnaaW.PrintWords YtmahlfjnejbcnaaW.PrintLast YtmahlfjnejbcnaaW.PrintMore Opn PAll Base Turn OctT SinT Circ Over RefT Units SumsT Vals SkyT MoonT AmpT SlpT PhaseT
set_option linter.unusedVariables false
set_option linter.unusedSimpArgs false
theorem sky_works : Ev (fun k => ephemeristop_sSky.f k) true := Ev.of ephemeristop_sSky.mono (k := 100) (by decide +kernel)
theorem find_ex : ∃ x y : Int → Int, ∀ n, -100000 ≤ n → n ≤ 100000 → Ev (fun k => phase_Find.f k n 0) (x n, y n, 0) ∧ 977949455 + 2551442878 * n - 172800000 < x n ∧ x n ≤ y n ∧ y n < 977949455 + 2551442878 * n + 172800000 := by
 have h : ∀ n, ∃ p : Int × Int, -100000 ≤ n → n ≤ 100000 → Ev (fun k => phase_Find.f k n 0) (p.1, p.2, 0) ∧ 977949455 + 2551442878 * n - 172800000 < p.1 ∧ p.1 ≤ p.2 ∧ p.2 < 977949455 + 2551442878 * n + 172800000 := by
  intro n
  by_cases c : -100000 ≤ n ∧ n ≤ 100000
  ·obtain ⟨x, y, v, w, ef, x1, xy, y1, _⟩ := find_ev (L := n) (q := 0) (by omega) (by omega) (by omega) (by omega)
   unfold md at x1 y1
   exact ⟨(x, y), fun _ _ => ⟨ef, by dsimp only; omega, xy, by dsimp only; omega⟩⟩
  ·exact ⟨(0, 0), fun a b => absurd ⟨a, b⟩ c⟩
 obtain ⟨p, hp⟩ := Classical.axiomOfChoice h
 exact ⟨fun n => (p n).1, fun n => (p n).2, hp⟩
theorem number_at {n t a b c d : Int} (n1 : -95000 ≤ n) (n2 : n ≤ 95000) (ha : Ev (fun k => phase_Find.f k n 0) (a, b, 0)) (hb : Ev (fun k => phase_Find.f k (n + 1) 0) (c, d, 0)) (h1 : b < t) (h2 : t < c) : Ev (fun k => phase_Number.f k t) (n, 0) := by
 obtain ⟨x, y, H⟩ := find_ex
 have u1 := ev_uniq ha (H n (by omega) (by omega)).1
 have u2 := ev_uniq hb (H (n + 1) (by omega) (by omega)).1
 simp only [Prod.mk.injEq] at u1 u2
 obtain ⟨rfl, rfl, _⟩ := u1
 obtain ⟨rfl, rfl, _⟩ := u2
 obtain ⟨_, f1, f2, f3⟩ := H n (by omega) (by omega)
 obtain ⟨_, g1, g2, g3⟩ := H (n + 1) (by omega) (by omega)
 obtain ⟨_, k1, k2, k3⟩ := H (n + 2) (by omega) (by omega)
 have hv : it t = 0 := if_pos ⟨by omega, by omega⟩
 obtain ⟨v1, v2⟩ := it_zero hv
 have e0 : wrap64 (t - 977949455) = t - 977949455 := w64 (by omega) (by omega)
 obtain ⟨K, hK⟩ : ∃ K, K = (t - 977949455) / 2551442878 := ⟨_, rfl⟩
 have hK2 : n - 1 ≤ K ∧ K ≤ n + 1 := by omega
 have num : ∀ r, Ev (fun k => phase_Number.l0 k t K (K + 1)) r → Ev (fun k => phase_Number.f k t) r := by
  intro r h
  refine ev_step 1 (fun k => ?_) h
  unfold phase_Number.f
  rw [e0, floor_pos (by omega) (by omega), Option.bind_some, valid_at, decide_eq_true ⟨v1, v2⟩, Option.bind_some, if_pos rfl, ← hK, if_neg (by omega), decide_eq_false (by omega), phase_Number.j0, if_neg (by simp), w64 (x := K + 1) (by omega) (by omega)]
 have hit : K - 1 ≤ n → Ev (fun k => phase_Number.l0 k t K n) (n, 0) := by
  intro h
  refine ev_step 1 (fun k => by rw [phase_Number.l0, w64 (x := K - 1) (by omega) (by omega), if_pos h]) ?_
  refine ev_bind (H n (by omega) (by omega)).1 (ev_some 0 fun k => ?_)
  dsimp only
  rw [if_pos rfl, if_pos h1]
 have pass : ∀ i, K - 1 ≤ i → i ≤ 96000 → -96000 ≤ i → t < x i → x i ≤ y i → Ev (fun k => phase_Number.l0 k t K (i - 1)) (n, 0) → Ev (fun k => phase_Number.l0 k t K i) (n, 0) := by
  intro i i1 i2 i3 i4 i5 hr
  refine ev_step 1 (fun k => by rw [phase_Number.l0, w64 (x := K - 1) (by omega) (by omega), if_pos i1]) ?_
  refine ev_bind (H i (by omega) (by omega)).1 ?_
  dsimp only
  refine Ev.congr (fun k => by rw [if_pos rfl, if_neg (by omega), if_neg (by omega), w64 (x := i - 1) (by omega) (by omega)]) hr
 have p1 : K - 1 ≤ n + 1 → Ev (fun k => phase_Number.l0 k t K (n + 1)) (n, 0) := by
  intro h
  refine pass (n + 1) h (by omega) (by omega) h2 g2 ?_
  rw [show n + 1 - 1 = n by omega]
  exact hit (by omega)
 refine num _ ?_
 rcases (show K = n - 1 ∨ K = n ∨ K = n + 1 by omega) with rfl | rfl | rfl
 ·rw [show n - 1 + 1 = n by omega]
  exact hit (by omega)
 ·exact p1 (by omega)
 ·refine pass (n + 1 + 1) (by omega) (by omega) (by omega) (by rw [show n + 1 + 1 = n + 2 by omega]; omega) (by rw [show n + 1 + 1 = n + 2 by omega]; omega) ?_
  rw [show n + 1 + 1 - 1 = n + 1 by omega]
  exact p1 (by omega)
def scok (a m n : Int) : Bool := match ephemerisref2_SinCos.f 20 a with | some r => decide (m * 1152921504606846976 ≤ r.1 * 100000 ∧ n * 1152921504606846976 ≤ r.2 * 100000) | none => false
theorem ref_138 : scok 13800000000000 8610 99622 = true := by decide +kernel
theorem ref_137 : scok 13700000000000 8590 99000 = true := by decide +kernel
theorem of_ref {a m n : Int} (h0 : -9223372036854775808 ≤ a) (h : scok a m n = true) : ∃ s c : Int, Nr ((s : Rat) - u * S a) 1600000 ∧ Nr ((c : Rat) - u * C a) 1600000 ∧ m * 1152921504606846976 ≤ s * 100000 ∧ n * 1152921504606846976 ≤ c * 100000 := by
 obtain ⟨s', c', e, ⟨h1, h2⟩, ⟨h3, h4⟩, _⟩ := sincos_ev2 (a := a) h0
 unfold scok at h
 cases hr : ephemerisref2_SinCos.f 20 a with
 | none => rw [hr] at h; cases h
 | some r =>
  rw [hr] at h
  have g : Ev (fun k => ephemerisref2_SinCos.f k a) r := Ev.of (ephemerisref2_SinCos.mono _) hr
  have q := ev_uniq e g
  subst q
  have h' := of_decide_eq_true h
  exact ⟨s', c', ⟨h1, h2⟩, ⟨h3, h4⟩, h'.1, h'.2⟩
theorem sc_138 : 86 / 1000 ≤ S 13800000000000 ∧ 9962 / 10000 ≤ C 13800000000000 := by
 obtain ⟨s, c, ⟨a1, a2⟩, ⟨b1, b2⟩, h1, h2⟩ := of_ref (by omega) ref_138
 have k1 := cle h1
 have k2 := cle h2
 push_cast at k1 k2
 generalize S 13800000000000 = p at *
 generalize C 13800000000000 = q at *
 rw [u_eq] at *
 constructor <;> grind
theorem sc_137 : 858 / 10000 ≤ S 13700000000000 := by
 obtain ⟨s, c, ⟨a1, a2⟩, ⟨b1, b2⟩, h1, h2⟩ := of_ref (by omega) ref_137
 have k1 := cle h1
 push_cast at k1
 generalize S 13700000000000 = p at *
 rw [u_eq] at *
 grind
theorem s_between {x : Int} (h0 : 13700000000000 ≤ x) (h1 : x ≤ 486300000000000) : 857 / 10000 ≤ S x := by
 have k := sc_137
 have e := (S_as 13700000000000).1
 have f := (S_as x).1
 have n1 := (SC_neg (13700000000000 - 250000000000000)).2
 have n2 := (SC_neg (x - 250000000000000)).2
 rw [show -((13700000000000 : Int) - 250000000000000) = 236300000000000 by decide] at n1
 rw [show -(x - 250000000000000) = 250000000000000 - x by omega] at n2
 rcases Int.lt_or_le x 250000000000000 with c | c
 ·have d := C_dec (a := 250000000000000 - x) (b := 236300000000000) (by omega) (by omega) (by omega)
  unfold Nr at *
  generalize S x = sx at *
  generalize S 13700000000000 = sy at *
  generalize C (13700000000000 - 250000000000000) = a1 at *
  generalize C 236300000000000 = a2 at *
  generalize C (x - 250000000000000) = a3 at *
  generalize C (250000000000000 - x) = a4 at *
  clear h0 h1 c
  grind
 ·have d := C_dec (a := x - 250000000000000) (b := 236300000000000) (by omega) (by omega) (by omega)
  unfold Nr at *
  generalize S x = sx at *
  generalize S 13700000000000 = sy at *
  generalize C (13700000000000 - 250000000000000) = a1 at *
  generalize C 236300000000000 = a2 at *
  generalize C (x - 250000000000000) = a3 at *
  clear n2 h0 h1 c
  grind
theorem fall_rat {cx sx cd sd cz cy : Rat} (h1 : Nr (cz - (cx * cd - sx * sd)) (1 / 100000000000000000000)) (h2 : cy ≤ cz + 1 / 10000000000000000000) (c1 : cx ≤ 1) (c0 : -1 ≤ cx) (d0 : 9962 / 10000 ≤ cd) (d1 : cd ≤ 1) (s0 : 857 / 10000 ≤ sx) (s1 : 86 / 1000 ≤ sd) : cy + 3 / 1000 ≤ cx := by
 have m1 := Rat.mul_le_mul_of_nonneg_left s0 (show 0 ≤ sd by grind)
 have m2 := Rat.mul_le_mul_of_nonneg_left c0 (show 0 ≤ 1 - cd by grind)
 unfold Nr at h1
 have e1 : (1 - cd) * cx = cx - cx * cd := by grind
 have e2 : sd * sx = sx * sd := by grind
 rw [e1] at m2
 rw [e2] at m1
 generalize cx * cd = p at *
 generalize sx * sd = q at *
 grind
theorem falls {x y : Int} (h0 : 13700000000000 ≤ x) (h1 : x + 13800000000000 ≤ y) (h2 : y ≤ 486300000000000) : C y + 3 / 1000 ≤ C x := by
 obtain ⟨s1, d0⟩ := sc_138
 obtain ⟨_, d1, _, _⟩ := SC_bound 13800000000000
 obtain ⟨c0, c1, _, _⟩ := SC_bound x
 exact fall_rat (SC_add x 13800000000000).2 (C_dec (a := x + 13800000000000) (b := y) (by omega) h1 (by omega)) c1 c0 d0 d1 (s_between h0 (by omega)) s1
theorem lit_ev {t al ah : Int} (e1 : Ev (fun k => moon_Elongation.f k t) (al, ah, 0)) (a0 : 0 ≤ al) (a1 : al < 1000000000) (a2 : ah - al ≤ 44018) (a3 : al + 44000 ≤ ah) : ∃ L H sl sh : Int, Ev (fun k => phase_Lit.f k t) (sl, sh, 0) ∧ sl = (1000000000 - H) / 2 ∧ -1000000000 ≤ H ∧ H ≤ 1000000000 ∧ (L : Rat) ≤ 1000000000 * C (al * 1000000) + 1 / 1000000000 ∧ 1000000000 * C (al * 1000000) ≤ (H : Rat) + 1 / 1000000000 ∧ H ≤ L + 310000 := by
 obtain ⟨L, H, ec, hc⟩ := cosover_ev (lo := al) (hi := ah) (by omega) (by omega) (by omega)
 obtain ⟨o1, o2⟩ := cosover_lo_hi hc (by omega)
 have hw := hc.wide
 have hL := hc.lo1
 have hH := hc.hi1
 obtain ⟨t1, t2⟩ := hc.tell (al * 1000000) (by omega) (by omega)
 refine ⟨L, H, (1000000000 - H) / 2, (1000000000 - L + 1) / 2, ?_, rfl, by omega, by omega, t1, t2, by omega⟩
 have hLH : L ≤ H + 1 := by
  generalize C (al * 1000000) = x at *
  rcases Int.lt_or_le (H + 1) L with q | q
  ·have q2 : ((H + 2 : Int) : Rat) ≤ (L : Rat) := Rat.intCast_le_intCast.2 (by omega)
   push_cast at q2
   grind
  ·exact q
 unfold phase_Lit.f
 refine ev_bind e1 ?_
 refine Ev.congr (fun k => if_pos rfl) ?_
 refine ev_bind ec (ev_some 0 fun k => ?_)
 have cl : ∀ x : Int, -1000000000 ≤ x → x ≤ 1000000000 → mx (-1000000000) (mn 1000000000 x) = x := by
  intro x h1 h2
  unfold mx mn
  (repeat' split) <;> omega
 simp only [sun_Clamp.f, Option.bind_some]
 rw [cl L hL o1, cl H o2 hH, w64 (x := 1000000000 - H) (by omega) (by omega), w64 (x := 1000000000 - L) (by omega) (by omega), w64 (x := 1000000000 - L + 1) (by omega) (by omega), Int.tdiv_eq_ediv_of_nonneg (by omega), Int.tdiv_eq_ediv_of_nonneg (by omega), w64 (x := (1000000000 - H) / 2) (by omega) (by omega), w64 (x := (1000000000 - L + 1) / 2) (by omega) (by omega)]
theorem less_rat {L H : Int} {cx cy : Rat} (h1 : (L : Rat) ≤ 1000000000 * cy + 1 / 1000000000) (h2 : 1000000000 * cx ≤ (H : Rat) + 1 / 1000000000) (h : cy + 3 / 1000 ≤ cx) : L + 2900000 ≤ H := by
 rcases Int.lt_or_le H (L + 2900000) with c | c
 ·have q := cle (show H + 1 ≤ L + 2900000 by omega)
  push_cast at q
  grind
 ·exact c
theorem sat_ok {k n : Int} (h0 : 0 < n) (h1 : n ≤ 4000000000000000000) : ∃ j, ephemeristop_sAt.f k n = some j ∧ 0 ≤ j ∧ j < n := by
 unfold ephemeristop_sAt.f
 rw [if_neg (by omega)]
 have a1 := Int.tmod_lt_of_pos k h0
 have a2 : -n < Int.tmod k n := by
  have := Int.lt_tmod_of_pos k h0
  omega
 rw [w64 (by omega) (by omega)]
 refine ⟨_, rfl, ?_, ?_⟩
 ·exact Int.tmod_nonneg _ (by omega)
 ·exact Int.tmod_lt_of_pos _ h0
theorem X_shift (L t dm ds : Int) : X L 0 t dm ds = X L 2 t dm ds + 500000000 * 1048576 ∧ X L 0 t dm ds = X (L + 1) 0 t dm ds + 1000000000 * 1048576 := by
 unfold X
 constructor <;> omega
theorem lit_at {L t dm ds : Int} (h : it t = 0) (hm : Dp mL t dm) (hs : Dp sL t ds) (x0 : 13700000 * 1048576 + 23000 * 1048576 ≤ X L 0 t dm ds) (x1 : X L 0 t dm ds ≤ 986300000 * 1048576) : ∃ al L' H sl sh : Int, Ev (fun k => phase_Lit.f k t) (sl, sh, 0) ∧ X L 0 t dm ds - 22020 * 1048576 ≤ al * 1048576 ∧ al * 1048576 ≤ X L 0 t dm ds - 21998 * 1048576 ∧ sl = (1000000000 - H) / 2 ∧ -1000000000 ≤ H ∧ H ≤ 1000000000 ∧ (L' : Rat) ≤ 1000000000 * C (al * 1000000) + 1 / 1000000000 ∧ 1000000000 * C (al * 1000000) ≤ (H : Rat) + 1 / 1000000000 ∧ H ≤ L' + 310000 := by
 obtain ⟨al, ah, e1, a0, a1, a2, a3, z, z1, z2⟩ := elong_md h hm hs
 obtain ⟨L', H, sl, sh, el, k⟩ := lit_ev e1 a0 a1 a2 a3
 refine ⟨al, L', H, sl, sh, el, ?_, ?_, k⟩
 ·unfold X at *
  generalize Wm t dm = w at *
  generalize Ws t ds = v at *
  omega
 ·unfold X at *
  generalize Wm t dm = w at *
  generalize Ws t ds = v at *
  omega
theorem TopPhases : PureX := by
 intro k0 a wk wa
 refine ev_k (g := fun k => ephemeristop_TopPhases.f k k0 a) ?_
 obtain ⟨K, hK⟩ : ∃ K, K = k0.tmod 90000 := ⟨_, rfl⟩
 have K1 : -90000 < K := by
  have := Int.lt_tmod_of_pos k0 (show (0 : Int) < 90000 by omega)
  omega
 have K2 : K < 90000 := by
  have := Int.tmod_lt_of_pos k0 (show (0 : Int) < 90000 by omega)
  omega
 obtain ⟨xa, ya, va, wa, fa, a1, a2, a3, a4, ta, va0, tya, wa0⟩ := find_ev (L := K) (q := 0) (by omega) (by omega) (by omega) (by omega)
 obtain ⟨xm, ym, vm, wm, fm, m1, m2, m3, m4, tm, vm0, tym, wm0⟩ := find_ev (L := K) (q := 2) (by omega) (by omega) (by omega) (by omega)
 obtain ⟨xb, yb, vb, wb, fb, b1, b2, b3, b4, tb, vb0, tyb, wb0⟩ := find_ev (L := K + 1) (q := 0) (by omega) (by omega) (by omega) (by omega)
 unfold md at a1 a3 m1 m3 b1 b3
 obtain ⟨j, hj, j0, j1⟩ := sat_ok (k := a) (n := xb - ya - 172800000) (by omega) (by omega)
 obtain ⟨t, ht⟩ : ∃ t, t = ya + 86400000 + j := ⟨_, rfl⟩
 have t1 : ya + 86400000 ≤ t := by omega
 have t2 : t + 86400000 < xb := by omega
 have iv : ∀ s, ya ≤ s → s ≤ xb → it s = 0 := fun s h1 h2 => if_pos ⟨by omega, by omega⟩
 have it1 := iv t (by omega) (by omega)
 have it2 := iv (t + 43200000) (by omega) (by omega)
 have num := number_at (n := K) (t := t) (by omega) (by omega) fa fb (by omega) (by omega)
 obtain ⟨dm, _, _, hm⟩ := mL_ex it1
 obtain ⟨ds, _, _, hs⟩ := sL_ex it1
 obtain ⟨dm', _, _, hm'⟩ := mL_ex it2
 obtain ⟨ds', _, _, hs'⟩ := sL_ex it2
 obtain ⟨p1, p2, p3, p4, _, _, p5, _⟩ := tya
 obtain ⟨r1, r2, r3, r4, r5, _, _, _⟩ := tb
 have p5 := p5 wa0
 have r5 := r5 vb0
 have g1 := X_slope (L := K) (q := 0) (iv ya (by omega) (by omega)) it1 (by omega) p3 p4 hm hs
 have g2 := X_slope (L := K) (q := 0) it1 it2 (by omega) hm hs hm' hs'
 have g3 := X_slope (L := K) (q := 0) it2 (iv xb (by omega) (by omega)) (by omega) hm' hs' r3 r4
 have sh3 := (X_shift K xb r1 r2).2
 have x0 : 13700000 * 1048576 + 23000 * 1048576 ≤ X K 0 t dm ds := by
  generalize X K 0 t dm ds = q1 at *
  generalize X K 0 ya p1 p2 = q2 at *
  omega
 have x1 : X K 0 (t + 43200000) dm' ds' ≤ 986300000 * 1048576 := by
  generalize X K 0 (t + 43200000) dm' ds' = q1 at *
  generalize X K 0 xb r1 r2 = q2 at *
  generalize X (K + 1) 0 xb r1 r2 = q3 at *
  omega
 have x2 : X K 0 t dm ds + 13823000 * 1048576 ≤ X K 0 (t + 43200000) dm' ds' := by
  generalize X K 0 (t + 43200000) dm' ds' = q1 at *
  generalize X K 0 t dm ds = q2 at *
  omega
 obtain ⟨al, L1, H1, sl, sh, el, l1, l2, l3, l4, l5, l6, l7, l8⟩ := lit_at (L := K) it1 hm hs x0 (by generalize X K 0 (t + 43200000) dm' ds' = q1 at *; generalize X K 0 t dm ds = q2 at *; omega)
 obtain ⟨bl, L2, H2, sl', sh', el', n1, n2, n3, n4, n5, n6, n7, n8⟩ := lit_at (L := K) it2 hm' hs' (by generalize X K 0 (t + 43200000) dm' ds' = q1 at *; generalize X K 0 t dm ds = q2 at *; omega) x1
 have grows : t + 43200000 < xm - 86400000 → sl' > sl := by
  intro c
  obtain ⟨f1, f2, f3, f4, f5, _, _, _⟩ := tm
  have f5 := f5 vm0
  have g4 := X_slope (L := K) (q := 2) it2 (iv xm (by omega) (by omega)) (by omega) hm' hs' f3 f4
  have s4 := (X_shift K (t + 43200000) dm' ds').1
  have up : al * 1000000 + 13800000000000 ≤ bl * 1000000 ∧ 13700000 ≤ al ∧ bl ≤ 486300000 := by
   generalize X K 0 t dm ds = q1 at *
   generalize X K 0 (t + 43200000) dm' ds' = q2 at *
   generalize X K 2 (t + 43200000) dm' ds' = q3 at *
   generalize X K 2 xm f1 f2 = q4 at *
   omega
  have cf := falls (x := al * 1000000) (y := bl * 1000000) (by omega) up.1 (by omega)
  have := less_rat n6 l7 cf
  omega
 have shrinks : t > ym + 86400000 → sl' < sl := by
  intro c
  obtain ⟨f1, f2, f3, f4, _, _, f5, _⟩ := tym
  have f5 := f5 wm0
  have g4 := X_slope (L := K) (q := 2) (iv ym (by omega) (by omega)) it1 (by omega) f3 f4 hm hs
  have s4 := (X_shift K t dm ds).1
  have up : al * 1000000 + 13800000000000 ≤ bl * 1000000 ∧ 513700000 ≤ al ∧ bl ≤ 986300000 := by
   generalize X K 0 t dm ds = q1 at *
   generalize X K 0 (t + 43200000) dm' ds' = q2 at *
   generalize X K 2 t dm ds = q3 at *
   generalize X K 2 ym f1 f2 = q4 at *
   omega
  have cf := falls (x := 1000000000000000 - bl * 1000000) (y := 1000000000000000 - al * 1000000) (by omega) (by omega) (by omega)
  have mb := C_mirror (bl * 1000000)
  have ma := C_mirror (al * 1000000)
  have cf2 : C (al * 1000000) + 29 / 10000 ≤ C (bl * 1000000) := by
   unfold Nr at mb ma
   generalize C (al * 1000000) = q1 at *
   generalize C (bl * 1000000) = q2 at *
   generalize C (1000000000000000 - bl * 1000000) = q3 at *
   generalize C (1000000000000000 - al * 1000000) = q4 at *
   grind
  have : L1 + 2800000 ≤ H2 := by
   rcases Int.lt_or_le H2 (L1 + 2800000) with c2 | c2
   ·have q := cle (show H2 + 1 ≤ L1 + 2800000 by omega)
    push_cast at q
    generalize C (al * 1000000) = q1 at *
    generalize C (bl * 1000000) = q2 at *
    clear cf mb ma
    grind
   ·exact c2
  omega
 unfold ephemeristop_TopPhases.f
 rw [← hK]
 simp only [iw]
 refine ob_ev sky_works ?_
 refine Ev.congr (fun k => oif_neg (by simp)) ?_
 refine ob_ev fa (ob_ev fm ?_)
 rw [w64 (x := K + 1) (by omega) (by omega)]
 refine ob_ev fb ?_
 dsimp only
 rw [w64 (x := xb - ya) (by omega) (by omega), w64 (x := xb - ya - 172800000) (by omega) (by omega), w64 (x := ya + 86400000) (by omega) (by omega), w64 (x := xm - 86400000) (by omega) (by omega), w64 (x := ym + 86400000) (by omega) (by omega)]
 refine Ev.congr (fun k => (oif_neg (by simp)).trans ((oif_neg (by simp)).trans ((oif_neg (by simp)).trans ((oif_neg (by simp; omega)).trans (oif_neg (by simp; omega)))))) ?_
 refine Ev.congr (fun k => by rw [hj, Sx.ob_eq, Option.bind_some, ← ht, w64 (x := t) (by omega) (by omega), w64 (x := t + 43200000) (by omega) (by omega)]) ?_
 refine ob_ev num (ob_ev el (ob_ev el' (ev_some 0 fun k => ?_)))
 dsimp only
 simp only [Sx.oif_eq]
 by_cases c1 : t + 43200000 < xm - 86400000
 ·have c2 := grows c1
  have c3 : ¬ t > ym + 86400000 := by omega
  simp [c1, c2, c3]
 ·by_cases c3 : t > ym + 86400000
  ·have c4 := shrinks c3
   simp [c1, c3, c4]
  ·simp [c1, c3]
end Go.Proofs.Ytmahlfjnejbcnaa.Pure
