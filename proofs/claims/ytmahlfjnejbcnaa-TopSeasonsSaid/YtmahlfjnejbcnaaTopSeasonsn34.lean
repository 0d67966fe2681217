/- The sums of the sun and the moon at two instants: how large they are, and how fast they change. -/
import Derived.Test.YtmahlfjnejbcnaaTopSeasonsn33
namespace Go.Proofs.Ytmahlfjnejbcnaa.SlpT
open Go.RowKit YtmahlfjnejbcnaaW.PrintWords YtmahlfjnejbcnaaW.PrintLast YtmahlfjnejbcnaaW.PrintMore Opn PAll Base OctT SinT RefT Circ Over Units Args SumsT Vals AmpT
set_option linter.unusedVariables false
set_option linter.unusedSimpArgs false
theorem slope_rat {a s1 s2 p1 p2 : Int} {w1 w2 K : Rat} (a1 : -1000000000 ≤ a) (a2 : a ≤ 1000000000) (e1 : -1600000 ≤ (s1 : Rat) - u * w1) (e2 : (s1 : Rat) - u * w1 ≤ 1600000) (e3 : -1600000 ≤ (s2 : Rat) - u * w2) (e4 : (s2 : Rat) - u * w2 ≤ 1600000)
  (k0 : 0 ≤ K) (k1 : -K ≤ w2 - w1) (k2 : w2 - w1 ≤ K) (q1 : p1 * 1099511627776 < a * s1 + 1099511627776) (q2 : a * s1 < p1 * 1099511627776 + 1099511627776) (q3 : p2 * 1099511627776 < a * s2 + 1099511627776) (q4 : a * s2 < p2 * 1099511627776 + 1099511627776) {m : Int} (hm0 : 0 ≤ m)
  (hm : 1000 * 1152921504606846976 * (ab a : Rat) * K ≤ 1099511627776 * 1048576 * (m : Rat) + 1099511627776 * 14000) : (p2 - p1) * 1000 ≤ m * 1048576 + 2930000 ∧ -(m * 1048576 + 2930000) ≤ (p2 - p1) * 1000 := by
 have d1 : -(3200000 + u * K) ≤ ((s2 - s1 : Int) : Rat) := by push_cast; rw [u_eq] at *; grind
 have d2 : ((s2 - s1 : Int) : Rat) ≤ 3200000 + u * K := by push_cast; rw [u_eq] at *; grind
 have b0 : 0 ≤ ab a := by unfold ab; split <;> omega
 have b1 : ab a ≤ 1000000000 := by unfold ab; split <;> omega
 have hab : a = ab a ∨ a = -ab a := by unfold ab; split <;> omega
 generalize ab a = b at *
 have b0' : (0 : Rat) ≤ (b : Rat) := cle (a := 0) b0
 have b1' := cle b1
 have hb9 : ((1000000000 : Int) : Rat) = 1000000000 := rfl
 rw [hb9] at b1'
 have x1 := Rat.mul_le_mul_of_nonneg_left d1 b0'
 have x2 := Rat.mul_le_mul_of_nonneg_left d2 b0'
 have y1 : (b : Rat) * ((s2 - s1 : Int) : Rat) = ((b * s2 - b * s1 : Int) : Rat) := by push_cast; grind
 rw [y1] at x1 x2
 have z1 : 1000 * (b * s2 - b * s1) ≤ 1099511627776 * 1048576 * m + 1099511627776 * 14000 + 3200000000000000000 := by
  refine int_of_rat ?_
  push_cast
  push_cast at x2
  rw [u_eq] at x2
  grind
 have z2 : -(1099511627776 * 1048576 * m + 1099511627776 * 14000 + 3200000000000000000) ≤ 1000 * (b * s2 - b * s1) := by
  refine int_of_rat ?_
  push_cast
  push_cast at x1
  rw [u_eq] at x1
  grind
 clear x1 x2 y1 d1 d2 hm e1 e2 e3 e4 k0 k1 k2 b0' b1' hb9
 rcases hab with ab | ab
 ·rw [ab] at q1 q2 q3 q4
  generalize b * s1 = X at *
  generalize b * s2 = Y at *
  constructor <;> omega
 ·rw [ab, Int.neg_mul] at q1 q2 q3 q4
  generalize b * s1 = X at *
  generalize b * s2 = Y at *
  constructor <;> omega
theorem lip_rat {a r d D : Int} (a0 : 0 ≤ a) (a1 : a ≤ 1000000000) (hr : 0 ≤ r * d) (hD : D * 86400000 ≤ r * d + 172800000) : 1000 * 1152921504606846976 * (a : Rat) * (kap * (D : Rat) + 1 / 10000000000000000000) ≤ 1099511627776 * 1048576 * ((a * (r * d) * 72723 / 1000000000000000000000000 + 1 : Int) : Rat) + 1099511627776 * 14000 := by
 have g4 := Int.mul_le_mul_of_nonneg_left hD a0
 have g5 : a * D * 86400000 ≤ a * (r * d) + a * 172800000 := by
  rw [Int.mul_add] at g4
  have : a * (D * 86400000) = a * D * 86400000 := by rw [Int.mul_assoc]
  omega
 have k8 := cle (Int.mul_nonneg a0 hr)
 clear g4 hD hr
 generalize r * d = R at *
 have h3 : a * R * 72723 ≤ (a * R * 72723 / 1000000000000000000000000 + 1) * 1000000000000000000000000 := by omega
 generalize a * R * 72723 / 1000000000000000000000000 + 1 = m at *
 have k3 := cle h3
 have k5 := cle g5
 have k6 := cle a1
 have k7 := cle a0
 push_cast at k3 k5 k6 k7 k8
 unfold kap
 generalize (a : Rat) * (R : Rat) = Y at *
 have e : 1000 * 1152921504606846976 * (a : Rat) * (6283185307179587 / 1000000000000000000000000000000 * (D : Rat) + 1 / 10000000000000000000) = 1000 * 1152921504606846976 * 6283185307179587 / 1000000000000000000000000000000 * ((a : Rat) * (D : Rat)) + 1000 * 1152921504606846976 / 10000000000000000000 * (a : Rat) := by grind
 rw [e]
 generalize (a : Rat) * (D : Rat) = X at *
 clear e h3 g5
 grind
theorem arg_apart {r t d : Int} (d0 : 0 ≤ d) (ph : Int) : ∃ x y : Int, S (arg r t + ph * 1000000) = S x ∧ S (arg r (t + d) + ph * 1000000) = S y ∧ (x ≤ y ∧ y - x ≤ ab r * d / 86400000 + 1 ∨ y ≤ x ∧ x - y ≤ ab r * d / 86400000 + 1) := by
 unfold arg
 have e : r * (t + d) = r * t + r * d := Int.mul_add _ _ _
 rw [e]
 generalize r * t = X
 refine ⟨X / 86400000 + ph * 1000000, (X + r * d) / 86400000 + ph * 1000000, S_per (by omega), S_per (by omega), ?_⟩
 unfold ab
 by_cases c : r < 0
 ·rw [if_pos c]
  have p := Int.mul_nonneg (show 0 ≤ -r by omega) d0
  rw [Int.neg_mul] at p ⊢
  generalize r * d = Y at *
  right
  omega
 ·rw [if_neg c]
  have p := Int.mul_nonneg (show 0 ≤ r by omega) d0
  generalize r * d = Y at *
  left
  omega
theorem S_apart {x y d : Int} (h : x ≤ y ∧ y - x ≤ d ∨ y ≤ x ∧ x - y ≤ d) : -(kap * (d : Rat) + 1 / 10000000000000000000) ≤ S y - S x ∧ S y - S x ≤ kap * (d : Rat) + 1 / 10000000000000000000 := by
 rcases h with ⟨h, h2⟩ | ⟨h, h2⟩
 ·obtain ⟨a, b⟩ := S_lip h
  have m : kap * ((y - x : Int) : Rat) ≤ kap * (d : Rat) := Rat.mul_le_mul_of_nonneg_left (cle h2) (by decide +kernel)
  generalize kap * ((y - x : Int) : Rat) = z at *
  generalize kap * (d : Rat) = w at *
  generalize S x = p at *
  generalize S y = q at *
  constructor <;> grind
 ·obtain ⟨a, b⟩ := S_lip h
  have m : kap * ((x - y : Int) : Rat) ≤ kap * (d : Rat) := Rat.mul_le_mul_of_nonneg_left (cle h2) (by decide +kernel)
  generalize kap * ((x - y : Int) : Rat) = z at *
  generalize kap * (d : Rat) = w at *
  generalize S x = p at *
  generalize S y = q at *
  constructor <;> grind
theorem K_nonneg {d : Int} (h : 0 ≤ d) : 0 ≤ kap * (d : Rat) + 1 / 10000000000000000000 := by
 have := kap_nonneg h
 generalize kap * (d : Rat) = w at *
 grind
def Two (x : S71) (t t' c : Int) : Prop := ∃ s k p s' k' p', Ev (fun q => ephemerisref2_Arg.f q x.f2 t) (arg x.f2 t) ∧ Ev (fun q => ephemerisref2_SinCos.f q (arg x.f2 t + x.f1 * 1000000)) (s, k) ∧ ephemerisref2_Part.f x.f0 s = some p ∧
  Ev (fun q => ephemerisref2_Arg.f q x.f2 t') (arg x.f2 t') ∧ Ev (fun q => ephemerisref2_SinCos.f q (arg x.f2 t' + x.f1 * 1000000)) (s', k') ∧ ephemerisref2_Part.f x.f0 s' = some p' ∧
  p' - p ≤ c ∧ -c ≤ p' - p ∧ -1100000000000000 ≤ p ∧ p ≤ 1100000000000000 ∧ -1100000000000000 ≤ p' ∧ p' ≤ 1100000000000000
theorem pair_ev {x : S71} (hx : ¬ bad x) {t t' D m : Int} (t1 : -345600000000000 ≤ t) (t2 : t < 345600086400000) (t3 : -345600000000000 ≤ t') (t4 : t' < 345600086400000) (D0 : 0 ≤ D)
  (ap : ∃ y z : Int, S (arg x.f2 t + x.f1 * 1000000) = S y ∧ S (arg x.f2 t' + x.f1 * 1000000) = S z ∧ (y ≤ z ∧ z - y ≤ D ∨ z ≤ y ∧ y - z ≤ D)) (m0 : 0 ≤ m)
  (hm : 1000 * 1152921504606846976 * (ab x.f0 : Rat) * (kap * (D : Rat) + 1 / 10000000000000000000) ≤ 1099511627776 * 1048576 * (m : Rat) + 1099511627776 * 14000) : Two x t t' ((m * 1048576 + 2930000) / 1000) := by
 have hx' := hx
 unfold bad at hx
 obtain ⟨g0, g1⟩ := arg_bound x.f2 t
 obtain ⟨g2, g3⟩ := arg_bound x.f2 t'
 have e1 := arg_ev (r := x.f2) (t := t) (by omega) (by omega) t1 t2
 have e2 := arg_ev (r := x.f2) (t := t') (by omega) (by omega) t3 t4
 obtain ⟨s, c, e3, ⟨s1, s2⟩, _, ⟨s5, s6⟩, _⟩ := sincos_ev2 (a := arg x.f2 t + x.f1 * 1000000) (by omega)
 obtain ⟨s', c', e4, ⟨s1', s2'⟩, _, ⟨s5', s6'⟩, _⟩ := sincos_ev2 (a := arg x.f2 t' + x.f1 * 1000000) (by omega)
 obtain ⟨p, e5, p1, p2, p3, p4⟩ := part_any (a := x.f0) (s := s) (by omega) (by omega) s5 s6
 obtain ⟨p', e6, p1', p2', p3', p4'⟩ := part_any (a := x.f0) (s := s') (by omega) (by omega) s5' s6'
 obtain ⟨z, y, hz, hy, ap⟩ := ap
 rw [hz] at s1 s2
 rw [hy] at s1' s2'
 obtain ⟨k1, k2⟩ := S_apart ap
 obtain ⟨r1, r2⟩ := slope_rat (a := x.f0) (by omega) (by omega) s1 s2 s1' s2' (K_nonneg D0) k1 k2 p1 p2 p1' p2' m0 hm
 clear hm k1 k2 s1 s2 s1' s2'
 exact ⟨s, c, p, s', c', p', e1, e3, e5, e2, e4, e6, by omega, by omega, p3, p4, p3', p4'⟩
def lip (d : Int) (x : S71) : Int := ((ab x.f0 * (ab x.f2 * d) * 72723 / 1000000000000000000000000 + 1) * 1048576 + 2930000) / 1000
theorem two_lip {x : S71} (hx : ¬ bad x) {t d : Int} (d0 : 0 ≤ d) (t1 : -345600000000000 ≤ t) (t2 : t + d < 345600086400000) : Two x t (t + d) (lip d x) := by
 have hx' := hx
 unfold bad at hx'
 have A0 : 0 ≤ ab x.f0 ∧ ab x.f0 ≤ 1000000000 := by unfold ab; split <;> omega
 have R0 : 0 ≤ ab x.f2 := by unfold ab; split <;> omega
 have rd := Int.mul_nonneg R0 d0
 have ard := Int.mul_nonneg A0.1 rd
 exact pair_ev hx (D := ab x.f2 * d / 86400000 + 1) t1 (by omega) (by omega) t2 (by omega) (arg_apart d0 x.f1) (by omega) (lip_rat A0.1 A0.2 rd (by omega))
def Dp (l : List S71) (t dp : Int) : Prop := ∀ n, -45100000000000000 + 1100000000000000 * (l.length : Int) ≤ n → n ≤ 45100000000000000 - 1100000000000000 * (l.length : Int) → Ev (fun k => ephemerisref2_Sum.l0 k t n l (l.length : Int) 0) (n + dp)
def cs (c : S71 → Int) : List S71 → Int
 | [] => 0
 | x :: r => c x + cs c r
theorem rsum_pair {t t' : Int} {c : S71 → Int} (l : List S71) (hl : l.length ≤ 40) (hg : ∀ x ∈ l, ¬ bad x) (H : ∀ x ∈ l, Two x t t' (c x)) : ∀ (r : List S71) (i : Int), 0 ≤ i → l.drop i.toNat = r → ∃ dp dp' : Int, dp' - dp ≤ cs c r ∧ -cs c r ≤ dp' - dp ∧
  ∀ n, -45100000000000000 + 1100000000000000 * (r.length : Int) ≤ n → n ≤ 45100000000000000 - 1100000000000000 * (r.length : Int) → Ev (fun k => ephemerisref2_Sum.l0 k t n l (l.length : Int) i) (n + dp) ∧ Ev (fun k => ephemerisref2_Sum.l0 k t' n l (l.length : Int) i) (n + dp') := by
 intro r
 induction r with
 | nil =>
  intro i h0 hd
  have hle := drop_nil h0 hd
  refine ⟨0, 0, by simp [cs], by simp [cs], fun n _ _ => ⟨ev_some 1 fun k => ?_, ev_some 1 fun k => ?_⟩⟩
  ·rw [ephemerisref2_Sum.l0, if_neg (by omega), Int.add_zero]
  ·rw [ephemerisref2_Sum.l0, if_neg (by omega), Int.add_zero]
 | cons s r ih =>
  intro i h0 hd
  obtain ⟨hlt, hs, ht⟩ := drop_cons z71 h0 hd
  have hs' : rd_T71 l i = s := hs
  have a9 : wrap64 (i + 1) = i + 1 := w64 (by omega) (by omega)
  have hb := hg s (drop_mem hd)
  obtain ⟨g0, g1⟩ := arg_bound s.f2 t
  obtain ⟨g2, g3⟩ := arg_bound s.f2 t'
  have hf : 0 ≤ s.f1 ∧ s.f1 < 1000000000 := by unfold bad at hb; omega
  obtain ⟨sn, k, p, sn', k', p', e2, e4, e5, e2', e4', e5', q1, q2, p3, p4, p3', p4'⟩ := H s (drop_mem hd)
  obtain ⟨dp, dp', d1, d2, run⟩ := ih (i + 1) (by omega) ht
  have hlc : ((s :: r).length : Int) = (r.length : Int) + 1 := by rw [List.length_cons]; push_cast; rfl
  have hlen : r.length ≤ 39 := by
   have := congrArg List.length hd
   rw [List.length_drop, List.length_cons] at this
   omega
  rw [hlc]
  have hq : cs c (s :: r) = c s + cs c r := rfl
  rw [hq]
  refine ⟨p + dp, p' + dp', by omega, by omega, fun n b5 b6 => ⟨?_, ?_⟩⟩
  ·have r2 := (run (n + p) (by omega) (by omega)).1
   rw [Int.add_assoc] at r2
   refine ev_step 1 (fun k => by rw [ephemerisref2_Sum.l0, if_pos hlt, if_pos h0, if_pos hlt, hs', a9]) ?_
   refine ev_bind e2 ?_
   rw [w64 (x := s.f1 * 1000000) (by omega) (by omega), w64 (x := arg s.f2 t + s.f1 * 1000000) (by omega) (by omega)]
   refine ev_bind e4 ?_
   exact Ev.congr (fun k => by rw [e5, Option.bind_some, w64 (x := n + p) (by omega) (by omega)]) r2
  ·have r2 := (run (n + p') (by omega) (by omega)).2
   rw [Int.add_assoc] at r2
   refine ev_step 1 (fun k => by rw [ephemerisref2_Sum.l0, if_pos hlt, if_pos h0, if_pos hlt, hs', a9]) ?_
   refine ev_bind e2' ?_
   rw [w64 (x := s.f1 * 1000000) (by omega) (by omega), w64 (x := arg s.f2 t' + s.f1 * 1000000) (by omega) (by omega)]
   refine ev_bind e4' ?_
   exact Ev.congr (fun k => by rw [e5', Option.bind_some, w64 (x := n + p') (by omega) (by omega)]) r2
theorem dp_ex {t : Int} (h : it t = 0) (l : List S71) (hl : l.length ≤ 40) (hg : ∀ x ∈ l, ¬ bad x) : ∃ dp, -(ams l * 1048576 + 4 * (l.length : Int)) ≤ dp ∧ dp ≤ ams l * 1048576 + 4 * (l.length : Int) ∧ Dp l t dp := by
 obtain ⟨t1, t2⟩ := it_zero h
 obtain ⟨dp, d1, d2, run⟩ := rsum_small t1 t2 l hl hg l 0 (by omega) rfl
 exact ⟨dp, d1, d2, run⟩
theorem dp_uniq {t : Int} {l : List S71} (hl : l.length ≤ 40) {a b : Int} (h : Dp l t a) (g : Dp l t b) : a = b := by
 have := ev_uniq (h 0 (by omega) (by omega)) (g 0 (by omega) (by omega))
 omega
theorem dp_two {t t' : Int} {c : S71 → Int} {l : List S71} (hl : l.length ≤ 40) (hg : ∀ x ∈ l, ¬ bad x) (H : ∀ x ∈ l, Two x t t' (c x)) {a b : Int} (ha : Dp l t a) (hb : Dp l t' b) : b - a ≤ cs c l ∧ -cs c l ≤ b - a := by
 obtain ⟨dp, dp', d1, d2, run⟩ := rsum_pair l hl hg H l 0 (by omega) rfl
 have x1 : Dp l t dp := fun n h1 h2 => (run n h1 h2).1
 have x2 : Dp l t' dp' := fun n h1 h2 => (run n h1 h2).2
 rw [dp_uniq hl ha x1, dp_uniq hl hb x2]
 exact ⟨d1, d2⟩
theorem dp_pair {t t' : Int} (h : it t = 0) (h' : it t' = 0) (le : t ≤ t') {l : List S71} (hl : l.length ≤ 40) (hg : ∀ x ∈ l, ¬ bad x) {a b : Int} (ha : Dp l t a) (hb : Dp l t' b) : b - a ≤ cs (lip (t' - t)) l ∧ -cs (lip (t' - t)) l ≤ b - a := by
 obtain ⟨t1, t2⟩ := it_zero h
 obtain ⟨t3, t4⟩ := it_zero h'
 have e : t + (t' - t) = t' := by omega
 refine dp_two hl hg (fun x hx => ?_) ha hb
 have := two_lip (hg x hx) (t := t) (d := t' - t) (by omega) t1 (by omega)
 rw [e] at this
 exact this
def U (b t : Int) : Int := b * t / 86400000 / 1000000 * 1048576 + b * t / 86400000 % 1000000 * 1048576 / 1000000
theorem U_arg (b t : Int) : ∃ z : Int, arg b t / 1000000 * 1048576 + arg b t % 1000000 * 1048576 / 1000000 = U b t + z * 1048576000000000 := by
 unfold U arg
 generalize b * t / 86400000 = A
 exact ⟨-(A / 1000000000000000), by omega⟩
theorem U_near (b t : Int) : U b t * 86400000000000 ≤ b * t * 1048576 ∧ b * t * 1048576 ≤ (U b t + 4) * 86400000000000 := by
 unfold U
 generalize b * t = X
 omega
theorem whole_ev {m b d t : Int} {l : List S71} (h : se m b l d = 0) (ht : it t = 0) {dp : Int} (hd : Dp l t dp) (bd : -45000000000000000 ≤ dp ∧ dp ≤ 45000000000000000) : Ev (fun k => ephemerisref2_Whole.f k m b l d t) ((m * 1048576 + dp + U b t) % 1048576000000000) := by
 obtain ⟨i1, i2⟩ := it_zero ht
 obtain ⟨hl, hb2, _⟩ := se_zero h
 unfold hb at hb2
 have e4 := arg_ev (r := b) (t := t) (by omega) (by omega) i1 i2
 obtain ⟨g0, g1⟩ := arg_bound b t
 obtain ⟨z, hz⟩ := U_arg b t
 have e2 : Ev (fun k => ephemerisref2_Sum.f k m b l d t) (m * 1048576 + dp) := by
  unfold ephemerisref2_Sum.f
  rw [w64 (x := m * 1048576) (by omega) (by omega)]
  exact hd _ (by omega) (by omega)
 have e : (m * 1048576 + dp + U b t) % 1048576000000000 = (m * 1048576 + dp + arg b t / 1000000 * 1048576 + arg b t % 1000000 * 1048576 / 1000000) % 1048576000000000 := by omega
 rw [e]
 have hn : -46100000000000000 ≤ m * 1048576 + dp ∧ m * 1048576 + dp ≤ 46100000000000000 := by omega
 generalize arg b t = A at *
 generalize m * 1048576 + dp = n at *
 unfold ephemerisref2_Whole.f
 refine ev_bind e4 (ev_bind e2 ?_)
 refine ev_some 0 fun k => ?_
 rw [Int.tdiv_eq_ediv_of_nonneg g0, Int.tmod_eq_emod_of_nonneg g0, w64 (x := A / 1000000) (by omega) (by omega), w64 (x := A / 1000000 * 1048576) (by omega) (by omega), w64 (x := n + A / 1000000 * 1048576) (by omega) (by omega), w64 (x := A % 1000000 * 1048576) (by omega) (by omega), Int.tdiv_eq_ediv_of_nonneg (by omega), w64 (x := A % 1000000 * 1048576 / 1000000) (by omega) (by omega), w64 (by omega) (by omega), mod_pos (by omega) (by omega), Option.bind_some]
def mL : List S71 := [(⟨17468817, 99384016, 36291647083333⟩ : S71), ⟨3538964, 134030564, 31434736861111⟩, ⟨1828650, 233414580, 67726383944444⟩, ⟨593383, 198768032, 72583294166666⟩, ⟨-514211, 84888545, 2737778555556⟩, ⟨-317589, 297001062, 73496390222222⟩]
def sL : List S71 := [(⟨5318339, 84888545, 2737778555556⟩ : S71), ⟨55536, 169777090, 5475557111112⟩]
def Wm (t dm : Int) : Int := 392048814 * 1048576 + dm + U 36601101305556 t
def Ws (t ds : Int) : Int := 775342092 * 1048576 + ds + U 2737909333333 t
theorem mL_good : mL.length ≤ 40 ∧ ∀ x ∈ mL, ¬ bad x := ⟨by decide, by decide⟩
theorem sL_good : sL.length ≤ 40 ∧ ∀ x ∈ sL, ¬ bad x := ⟨by decide, by decide⟩
theorem sL_ex {t : Int} (h : it t = 0) : ∃ ds, -(5373875 * 1048576 + 8) ≤ ds ∧ ds ≤ 5373875 * 1048576 + 8 ∧ Dp sL t ds := by
 obtain ⟨dp, d1, d2, d3⟩ := dp_ex h sL sL_good.1 sL_good.2
 have e : ams sL = 5373875 := by decide
 have e2 : (sL.length : Int) = 2 := by decide
 rw [e, e2] at d1 d2
 exact ⟨dp, by omega, by omega, d3⟩
theorem sL_bd {t ds : Int} (h : it t = 0) (g : Dp sL t ds) : -(5373875 * 1048576 + 8) ≤ ds ∧ ds ≤ 5373875 * 1048576 + 8 := by
 obtain ⟨d, d1, d2, d3⟩ := sL_ex h
 rw [dp_uniq sL_good.1 g d3]
 exact ⟨d1, d2⟩
def X (L q t dm ds : Int) : Int := Wm t dm - Ws t ds - (L * 1000000000 + q * 250000000) * 1048576
theorem U_pair {t : Int} : (U 36601101305556 t - U 2737909333333 t) * 86400000000000 ≤ 33863191972223 * t * 1048576 + 4 * 86400000000000 ∧ 33863191972223 * t * 1048576 ≤ (U 36601101305556 t - U 2737909333333 t) * 86400000000000 + 4 * 86400000000000 := by
 have a := U_near 36601101305556 t
 have b := U_near 2737909333333 t
 omega
theorem X_slope {L q t t' dm ds dm' ds' : Int} (h : it t = 0) (h' : it t' = 0) (le : t ≤ t') (hm : Dp mL t dm) (hs : Dp sL t ds) (hm' : Dp mL t' dm') (hs' : Dp sL t' ds') : 320000 * (t' - t) * 1048576 ≤ (X L q t' dm' ds' - X L q t dm ds) * 1000000 + 100000 * 1000000 := by
 have et : t' = t + (t' - t) := by omega
 have a := (dp_pair h h' le mL_good.1 mL_good.2 hm hm').2
 have b := (dp_pair h h' le sL_good.1 sL_good.2 hs hs').1
 have u := (U_pair (t := t)).1
 have u' := (U_pair (t := t')).2
 have b0 : 0 ≤ t' - t := by omega
 generalize t' - t = d at *
 simp only [cs, mL, sL, lip, ab] at a b
 simp (decide := true) only [if_true, if_false] at a b
 unfold X Wm Ws
 generalize U 36601101305556 t = v at *
 generalize U 2737909333333 t = w at *
 generalize U 36601101305556 t' = v' at *
 generalize U 2737909333333 t' = w' at *
 omega
end Go.Proofs.Ytmahlfjnejbcnaa.SlpT
