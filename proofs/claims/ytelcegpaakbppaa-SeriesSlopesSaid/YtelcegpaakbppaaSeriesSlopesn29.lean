/- SeriesSlopes: Slope of the program holds the mean rate and the change of the reference's terms between two instants. -/
import Derived.Test.YtelcegpaakbppaaSeriesSlopesn16
import Derived.Test.YtelcegpaakbppaaSeriesSlopesn28
namespace Go.Proofs.Ytelcegpaakbppaa.Pure
open Go.RowKit Go.Proofs.YtelcegpaakbppaaW.PrintWords Go.Proofs.YtelcegpaakbppaaW.PrintLast Go.Proofs.YtelcegpaakbppaaW.PrintMore Go.Proofs.Ytelcegpaakbppaa.Opn Go.Proofs.Ytelcegpaakbppaa.PAll Go.Proofs.Ytelcegpaakbppaa.Base Go.Proofs.Ytelcegpaakbppaa.OctT Go.Proofs.Ytelcegpaakbppaa.SinT Go.Proofs.Ytelcegpaakbppaa.RefT Go.Proofs.Ytelcegpaakbppaa.Circ Go.Proofs.Ytelcegpaakbppaa.Units Go.Proofs.Ytelcegpaakbppaa.Args Go.Proofs.Ytelcegpaakbppaa.SumsT Go.Proofs.Ytelcegpaakbppaa.Vals
set_option linter.unusedVariables false
set_option linter.unusedSimpArgs false
theorem series_works : Ev (fun k => ephemerislaw2_seriesWorks.f k) true := Ev.of ephemerislaw2_seriesWorks.mono (k := 60) (by decide +kernel)
theorem none_at (e : Int) : ephemerislaw2_none.f 0 0 e e = some true := by unfold ephemerislaw2_none.f; simp
theorem ceil_pos {a b : Int} (ha : -9223372036854775807 ≤ a ∧ a ≤ 9223372036854775807) (hb : 0 < b) (h : -9223372036854775807 ≤ -a / b) (h' : -a / b ≤ 9223372036854775807) : interval_Ceil.f a b = some (-(-a / b)) := by
  unfold interval_Ceil.f
  rw [w64 (x := -a) (by omega) (by omega), floor_pos (by omega) hb, Option.bind_some, w64 (by omega) (by omega)]
/-- What a term adds to the slope's error. -/
def ms (x : S53) : Int := -(-(-(-((if x.f0 < 0 then -x.f0 else x.f0) * -(-(if x.f2 < 0 then -x.f2 else x.f2) / 1000000)) / 1000000000) * 44) / 7)
/-- How far two sines are apart, in parts of an amount. -/
theorem slope_rat {a s1 s2 p1 p2 : Int} {w1 w2 K : Rat} (a1 : -1000000000 ≤ a) (a2 : a ≤ 1000000000) (e1 : -1600000 ≤ (s1 : Rat) - u * w1) (e2 : (s1 : Rat) - u * w1 ≤ 1600000) (e3 : -1600000 ≤ (s2 : Rat) - u * w2) (e4 : (s2 : Rat) - u * w2 ≤ 1600000)
    (k0 : 0 ≤ K) (k1 : -K ≤ w2 - w1) (k2 : w2 - w1 ≤ K) (q1 : p1 * 1099511627776 < a * s1 + 1099511627776) (q2 : a * s1 < p1 * 1099511627776 + 1099511627776) (q3 : p2 * 1099511627776 < a * s2 + 1099511627776) (q4 : a * s2 < p2 * 1099511627776 + 1099511627776) {m : Int} (hm0 : 0 ≤ m)
    (hm : 1000 * 1152921504606846976 * ((if a < 0 then -a else a : Int) : Rat) * K ≤ 1099511627776 * 1048576 * (m : Rat) + 1099511627776 * 14000) : (p2 - p1) * 1000 ≤ m * 1048576 + 2930000 ∧ -(m * 1048576 + 2930000) ≤ (p2 - p1) * 1000 := by
  have d1 : -(3200000 + u * K) ≤ ((s2 - s1 : Int) : Rat) := by push_cast; rw [u_eq] at *; grind
  have d2 : ((s2 - s1 : Int) : Rat) ≤ 3200000 + u * K := by push_cast; rw [u_eq] at *; grind
  have b0 : 0 ≤ (if a < 0 then -a else a) := by split <;> omega
  have b1 : (if a < 0 then -a else a) ≤ 1000000000 := by split <;> omega
  have ab : a = (if a < 0 then -a else a) ∨ a = -(if a < 0 then -a else a) := by split <;> omega
  generalize (if a < 0 then -a else a) = b at *
  have b0' : (0 : Rat) ≤ (b : Rat) := cle (a := 0) b0
  have b1' := cle b1
  have hb9 : ((1000000000 : Int) : Rat) = 1000000000 := rfl
  rw [hb9] at b1'
  have x1 := Rat.mul_le_mul_of_nonneg_left d1 b0'
  have x2 := Rat.mul_le_mul_of_nonneg_left d2 b0'
  have y1 : (b : Rat) * ((s2 - s1 : Int) : Rat) = ((b * s2 - b * s1 : Int) : Rat) := by push_cast; grind
  rw [y1] at x1 x2
  have z1 : 1000 * (b * s2 - b * s1) ≤ 1099511627776 * 1048576 * m + 1099511627776 * 14000 + 3200000000000000000 := by
    refine int_of_rat ?_
    push_cast
    push_cast at x2
    rw [u_eq] at x2
    grind
  have z2 : -(1099511627776 * 1048576 * m + 1099511627776 * 14000 + 3200000000000000000) ≤ 1000 * (b * s2 - b * s1) := by
    refine int_of_rat ?_
    push_cast
    push_cast at x1
    rw [u_eq] at x1
    grind
  clear x1 x2 y1 d1 d2 hm e1 e2 e3 e4 k0 k1 k2 b0' b1' hb9
  rcases ab with ab | ab
  · rw [ab] at q1 q2 q3 q4
    generalize b * s1 = X at *
    generalize b * s2 = Y at *
    constructor <;> omega
  · rw [ab, Int.neg_mul] at q1 q2 q3 q4
    generalize b * s1 = X at *
    generalize b * s2 = Y at *
    constructor <;> omega
theorem ceil_le (x : Int) {d : Int} (h : 0 < d) : x ≤ -(-x / d) * d := by
  have := Int.ediv_mul_le (-x) (show d ≠ 0 by omega)
  rw [Int.neg_mul]; omega
/-- The slope's error bounds what the sine can change. -/
theorem ms_rat {x : S53} (hx : ¬ bad x) {d : Int} (h0 : 0 ≤ d) (h1 : d ≤ (if x.f2 < 0 then -x.f2 else x.f2) / 1000 + 2) : 0 ≤ ms x ∧ ms x ≤ 30000000000 ∧ 1000 * 1152921504606846976 * ((if x.f0 < 0 then -x.f0 else x.f0 : Int) : Rat) * (kap * (d : Rat) + 1 / 10000000000000000000) ≤ 1099511627776 * 1048576 * (ms x : Rat) + 1099511627776 * 14000 := by
  unfold bad at hx
  unfold ms
  have a0 : 0 ≤ (if x.f0 < 0 then -x.f0 else x.f0) := by split <;> omega
  have a1 : (if x.f0 < 0 then -x.f0 else x.f0) ≤ 1000000000 := by split <;> omega
  have r0 : 0 ≤ (if x.f2 < 0 then -x.f2 else x.f2) := by split <;> omega
  have r1 : (if x.f2 < 0 then -x.f2 else x.f2) ≤ 4000000000000000 := by split <;> omega
  generalize (if x.f0 < 0 then -x.f0 else x.f0) = a at *
  generalize (if x.f2 < 0 then -x.f2 else x.f2) = r at *
  have c1 := ceil_le r (show (0 : Int) < 1000000 by omega)
  have c0 : 0 ≤ -(-r / 1000000) ∧ -(-r / 1000000) ≤ 4000000000 := by omega
  generalize -(-r / 1000000) = c at *
  obtain ⟨p1, p2⟩ := prod_in a0 a1 c0.1 c0.2
  have e1 := ceil_le (a * c) (show (0 : Int) < 1000000000 by omega)
  have e0 : 0 ≤ -(-(a * c) / 1000000000) ∧ -(-(a * c) / 1000000000) ≤ 4000000000 := by omega
  generalize -(-(a * c) / 1000000000) = e at *
  have f1 := ceil_le (e * 44) (show (0 : Int) < 7 by omega)
  have f0 : 0 ≤ -(-(e * 44) / 7) ∧ -(-(e * 44) / 7) ≤ 30000000000 := by omega
  generalize -(-(e * 44) / 7) = m at *
  refine ⟨f0.1, f0.2, ?_⟩
  have g1 := Int.mul_le_mul_of_nonneg_left c1 a0
  have g2 : a * r ≤ a * c * 1000000 := by rw [Int.mul_assoc]; exact g1
  have g3 : a * r * 44 ≤ m * 7 * 1000000000000000 := by omega
  have g4 := Int.mul_le_mul_of_nonneg_left (show d * 1000 ≤ r + 2000 by omega) a0
  have g5 : a * d * 1000 ≤ a * r + 2000000000000 := by
    rw [Int.mul_add] at g4
    have : a * (d * 1000) = a * d * 1000 := by rw [Int.mul_assoc]
    omega
  have h3 := cle g3
  have h5 := cle g5
  have h6 := cle a1
  have h7 := cle a0
  have h8 := cle f0.1
  push_cast at h3 h5 h6 h7 h8
  unfold kap
  generalize hR : (a : Rat) * (r : Rat) = R at *
  have e : (a : Rat) * (d : Rat) = (a : Rat) * (d : Rat) := rfl
  generalize hD : (a : Rat) * (d : Rat) = D at *
  have k : 1000 * 1152921504606846976 * (a : Rat) * (6283185307179587 / 1000000000000000000000000000000 * (d : Rat) + 1 / 10000000000000000000) = 1000 * 1152921504606846976 * 6283185307179587 / 1000000000000000000000000000000 * D + 1000 * 1152921504606846976 / 10000000000000000000 * (a : Rat) := by rw [← hD]; grind
  rw [k]
  clear g1 g2 g3 g4 g5 c1 c0 p1 p2 e1 e0 f1 f0 h1 k e hD hR
  grind
/-- The arguments at two instants. -/
theorem arg_apart {r t : Int} (h1 : -4000000000000000 ≤ r) (h2 : r ≤ 4000000000000000) (ph : Int) : ∃ x y : Int, S (arg r t + ph * 1000000) = S x ∧ S (arg r (t + 86400) + ph * 1000000) = S y ∧ (x ≤ y ∧ y - x ≤ (if r < 0 then -r else r) / 1000 + 2 ∨ y ≤ x ∧ x - y ≤ (if r < 0 then -r else r) / 1000 + 2) := by
  unfold arg
  have e : r * (t + 86400) = r * t + r * 86400 := Int.mul_add _ _ _
  rw [e]
  generalize r * t = X
  refine ⟨X / 86400000 + ph * 1000000, (X + r * 86400) / 86400000 + ph * 1000000, S_per (by omega), S_per (by omega), ?_⟩
  split <;> omega
theorem S_apart {x y d : Int} (h : x ≤ y ∧ y - x ≤ d ∨ y ≤ x ∧ x - y ≤ d) : -(kap * (d : Rat) + 1 / 10000000000000000000) ≤ S y - S x ∧ S y - S x ≤ kap * (d : Rat) + 1 / 10000000000000000000 := by
  rcases h with ⟨h, h2⟩ | ⟨h, h2⟩
  · obtain ⟨a, b⟩ := S_lip h
    have m : kap * ((y - x : Int) : Rat) ≤ kap * (d : Rat) := Rat.mul_le_mul_of_nonneg_left (cle h2) (by decide +kernel)
    generalize kap * ((y - x : Int) : Rat) = z at *
    generalize kap * (d : Rat) = w at *
    generalize S x = p at *
    generalize S y = q at *
    constructor <;> grind
  · obtain ⟨a, b⟩ := S_lip h
    have m : kap * ((x - y : Int) : Rat) ≤ kap * (d : Rat) := Rat.mul_le_mul_of_nonneg_left (cle h2) (by decide +kernel)
    generalize kap * ((x - y : Int) : Rat) = z at *
    generalize kap * (d : Rat) = w at *
    generalize S x = p at *
    generalize S y = q at *
    constructor <;> grind
theorem K_nonneg {d : Int} (h : 0 ≤ d) : 0 ≤ kap * (d : Rat) + 1 / 10000000000000000000 := by
  have := kap_nonneg h
  generalize kap * (d : Rat) = w at *
  grind
/-- One term at two instants. -/
theorem pair_ev {x : S53} (hx : ¬ bad x) {t : Int} (t1 : -345600000000000 ≤ t) (t2 : t + 86400 < 345600086400000) : ∃ s c p s' c' p', Ev (fun k => ephemerisref2_Arg.f k x.f2 t) (arg x.f2 t) ∧ Ev (fun k => ephemerisref2_SinCos.f k (arg x.f2 t + x.f1 * 1000000)) (s, c) ∧ ephemerisref2_Part.f x.f0 s = some p ∧
    Ev (fun k => ephemerisref2_Arg.f k x.f2 (t + 86400)) (arg x.f2 (t + 86400)) ∧ Ev (fun k => ephemerisref2_SinCos.f k (arg x.f2 (t + 86400) + x.f1 * 1000000)) (s', c') ∧ ephemerisref2_Part.f x.f0 s' = some p' ∧
    (p' - p) * 1000 ≤ ms x * 1048576 + 2930000 ∧ -(ms x * 1048576 + 2930000) ≤ (p' - p) * 1000 ∧ -1100000000000000 ≤ p ∧ p ≤ 1100000000000000 ∧ -1100000000000000 ≤ p' ∧ p' ≤ 1100000000000000 := by
  have hx' := hx
  unfold bad at hx
  obtain ⟨g0, g1⟩ := arg_bound x.f2 t
  obtain ⟨g2, g3⟩ := arg_bound x.f2 (t + 86400)
  have e1 := arg_ev (r := x.f2) (t := t) (by omega) (by omega) t1 (by omega)
  have e2 := arg_ev (r := x.f2) (t := t + 86400) (by omega) (by omega) (by omega) t2
  obtain ⟨s, c, e3, ⟨s1, s2⟩, _, ⟨s5, s6⟩, _⟩ := sincos_ev2 (a := arg x.f2 t + x.f1 * 1000000) (by omega)
  obtain ⟨s', c', e4, ⟨s1', s2'⟩, _, ⟨s5', s6'⟩, _⟩ := sincos_ev2 (a := arg x.f2 (t + 86400) + x.f1 * 1000000) (by omega)
  obtain ⟨p, e5, p1, p2, p3, p4⟩ := part_any (a := x.f0) (s := s) (by omega) (by omega) s5 s6
  obtain ⟨p', e6, p1', p2', p3', p4'⟩ := part_any (a := x.f0) (s := s') (by omega) (by omega) s5' s6'
  obtain ⟨z, y, hz, hy, ap⟩ := arg_apart (r := x.f2) (t := t) (by omega) (by omega) x.f1
  rw [hz] at s1 s2
  rw [hy] at s1' s2'
  have d0 : 0 ≤ (if x.f2 < 0 then -x.f2 else x.f2) / 1000 + 2 := by split <;> omega
  obtain ⟨m0, m1, m2⟩ := ms_rat hx' d0 (Int.le_refl _)
  obtain ⟨k1, k2⟩ := S_apart ap
  obtain ⟨r1, r2⟩ := slope_rat (a := x.f0) (by omega) (by omega) s1 s2 s1' s2' (K_nonneg d0) k1 k2 p1 p2 p1' p2' m0 m2
  exact ⟨s, c, p, s', c', p', e1, e3, e5, e2, e4, e6, r1, r2, p3, p4, p3', p4'⟩
def mss : List S53 → Int
  | [] => 0
  | x :: t => ms x + mss t
theorem ms_bound {x : S53} (hx : ¬ bad x) : 0 ≤ ms x ∧ ms x ≤ 30000000000 := by
  have d0 : 0 ≤ (if x.f2 < 0 then -x.f2 else x.f2) / 1000 + 2 := by split <;> omega
  obtain ⟨m0, m1, _⟩ := ms_rat hx d0 (Int.le_refl _)
  exact ⟨m0, m1⟩
theorem abs_le {x : Int} {m : Int} (h1 : -m ≤ x) (h2 : x ≤ m) : 0 ≤ (if x < 0 then -x else x) ∧ (if x < 0 then -x else x) ≤ m := by split <;> omega
/-- The program's rounds of one term. -/
theorem slope_step {x : S53} (hx : ¬ bad x) (l : List S53) {i most a b d : Int} (l2 : List S53) (h0 : 0 ≤ i) (hlt : i < (l.length : Int)) (hs' : rd_T53 l i = x) (a9 : wrap64 (i + 1) = i + 1) (m0 : 0 ≤ most) (m1 : most ≤ 2000000000000) {r : Int × Int × Int}
    (next : Ev (fun k => series_Slope.l0 k (most + ms x) l (l.length : Int) (i + 1) a b l2 d) r) : Ev (fun k => series_Slope.l0 k most l (l.length : Int) i a b l2 d) r := by
  have hm := ms_bound hx
  have hx' := hx
  unfold bad at hx
  have ha := abs_le (x := x.f0) (m := 1000000000) (by omega) (by omega)
  have hr := abs_le (x := x.f2) (m := 4000000000000000) (by omega) (by omega)
  have key : Ev (fun k => series_Slope.j1 k most (if x.f0 < 0 then -x.f0 else x.f0) x.f2 l (l.length : Int) i a b l2 d) r := by
    unfold ms at next hm
    generalize (if x.f0 < 0 then -x.f0 else x.f0) = A at *
    have c0 : 0 ≤ -(-(if x.f2 < 0 then -x.f2 else x.f2) / 1000000) ∧ -(-(if x.f2 < 0 then -x.f2 else x.f2) / 1000000) ≤ 4000000000 := by omega
    obtain ⟨p1, p2⟩ := prod_in ha.1 ha.2 c0.1 c0.2
    have f2 := ceil_pos (a := A * -(-(if x.f2 < 0 then -x.f2 else x.f2) / 1000000)) (b := 1000000000) (by omega) (by omega) (by omega) (by omega)
    have e0 : 0 ≤ -(-(A * -(-(if x.f2 < 0 then -x.f2 else x.f2) / 1000000)) / 1000000000) ∧ -(-(A * -(-(if x.f2 < 0 then -x.f2 else x.f2) / 1000000)) / 1000000000) ≤ 4000000000 := by omega
    have f3 := ceil_pos (a := -(-(A * -(-(if x.f2 < 0 then -x.f2 else x.f2) / 1000000)) / 1000000000) * 44) (b := 7) (by omega) (by omega) (by omega) (by omega)
    by_cases c : x.f2 < 0
    · rw [if_pos c] at *
      have f1 := ceil_pos (a := -x.f2) (b := 1000000) (by omega) (by omega) (by omega) (by omega)
      refine ev_step 1 (fun k => ?_) next
      rw [series_Slope.j1, if_pos c, w64 (x := -x.f2) (by omega) (by omega), f1, Option.bind_some, w64 (x := A * -(- -x.f2 / 1000000)) (by omega) (by omega), f2, Option.bind_some, w64 (x := -(-(A * -(- -x.f2 / 1000000)) / 1000000000) * 44) (by omega) (by omega), f3, Option.bind_some, a9, w64 (by omega) (by omega)]
    · rw [if_neg c] at *
      have f1 := ceil_pos (a := x.f2) (b := 1000000) (by omega) (by omega) (by omega) (by omega)
      refine ev_step 1 (fun k => ?_) next
      rw [series_Slope.j1, if_neg c, f1, Option.bind_some, w64 (x := A * -(-x.f2 / 1000000)) (by omega) (by omega), f2, Option.bind_some, w64 (x := -(-(A * -(-x.f2 / 1000000)) / 1000000000) * 44) (by omega) (by omega), f3, Option.bind_some, a9, w64 (by omega) (by omega)]
  by_cases c : x.f0 < 0
  · rw [if_pos c] at key
    exact ev_step 1 (fun k => by rw [series_Slope.l0, if_pos hlt, if_pos h0, if_pos hlt, hs', if_pos c, w64 (x := -x.f0) (by omega) (by omega)]) key
  · rw [if_neg c] at key
    exact ev_step 1 (fun k => by rw [series_Slope.l0, if_pos hlt, if_pos h0, if_pos hlt, hs', if_neg c]) key
theorem slope_loop (l : List S53) (hl : l.length ≤ 40) (hg : ∀ x ∈ l, ¬ bad x) (a b d : Int) (l2 : List S53) (b1 : -4000000000000000 ≤ b) (b2 : b ≤ 4000000000000000) : ∀ (r : List S53) (i : Int), 0 ≤ i → l.drop i.toNat = r → 0 ≤ mss r ∧ mss r ≤ 30000000000 * (r.length : Int) ∧ ∀ most, 0 ≤ most → most ≤ 1200000000000 - 30000000000 * (r.length : Int) → Ev (fun k => series_Slope.l0 k most l (l.length : Int) i a b l2 d) (b / 1000000 - (most + mss r), -(-b / 1000000) + (most + mss r), 0) := by
  intro r
  induction r with
  | nil =>
    intro i h0 hd
    have hle := drop_nil h0 hd
    refine ⟨by simp [mss], by simp [mss], fun most m0 m1 => ?_⟩
    have f1 := floor_pos (a := b) (b := 1000000) (by omega) (by omega)
    have f2 := ceil_pos (a := b) (b := 1000000) (by omega) (by omega) (by omega) (by omega)
    have e : mss [] = 0 := rfl
    simp only [List.length_nil] at m1
    refine ev_some 1 fun k => ?_
    rw [series_Slope.l0, if_neg (by omega), f1, Option.bind_some, f2, Option.bind_some, e, Int.add_zero, w64 (by omega) (by omega), w64 (by omega) (by omega)]
  | cons s r ih =>
    intro i h0 hd
    obtain ⟨hlt, hs, ht⟩ := drop_cons z53 h0 hd
    have hs' : rd_T53 l i = s := hs
    have a9 : wrap64 (i + 1) = i + 1 := w64 (by omega) (by omega)
    have hb := hg s (drop_mem hd)
    obtain ⟨q1, q2⟩ := ms_bound hb
    obtain ⟨d1, d2, run⟩ := ih (i + 1) (by omega) ht
    have hlen : r.length ≤ 39 := by
      have := congrArg List.length hd
      rw [List.length_drop, List.length_cons] at this
      omega
    have hlc : ((s :: r).length : Int) = (r.length : Int) + 1 := by rw [List.length_cons]; push_cast; rfl
    have hms : mss (s :: r) = ms s + mss r := rfl
    rw [hlc, hms]
    refine ⟨by omega, by omega, fun most m0 m1 => ?_⟩
    have n := run (most + ms s) (by omega) (by omega)
    rw [Int.add_assoc] at n
    exact slope_step hb l l2 h0 hlt hs' a9 m0 (by omega) n
theorem sums2_ev {t : Int} (t1 : -345600000000000 ≤ t) (t2 : t + 86400 < 345600086400000) (l : List S53) (hl : l.length ≤ 40) (hg : ∀ x ∈ l, ¬ bad x) : ∀ (r : List S53) (i : Int), 0 ≤ i → l.drop i.toNat = r → ∃ p p' : Int, (p' - p) * 1000 ≤ mss r * 1048576 + 2930000 * (r.length : Int) ∧ -(mss r * 1048576 + 2930000 * (r.length : Int)) ≤ (p' - p) * 1000 ∧
    -1100000000000000 * (r.length : Int) ≤ p ∧ p ≤ 1100000000000000 * (r.length : Int) ∧ -1100000000000000 * (r.length : Int) ≤ p' ∧ p' ≤ 1100000000000000 * (r.length : Int) ∧
    ∀ n, -45100000000000000 + 1100000000000000 * (r.length : Int) ≤ n → n ≤ 45100000000000000 - 1100000000000000 * (r.length : Int) → Ev (fun k => ephemerisref2_Sum.l0 k t n l (l.length : Int) i) (n + p) ∧ Ev (fun k => ephemerisref2_Sum.l0 k (t + 86400) n l (l.length : Int) i) (n + p') := by
  intro r
  induction r with
  | nil =>
    intro i h0 hd
    have hle := drop_nil h0 hd
    refine ⟨0, 0, by simp [mss], by simp [mss], by simp, by simp, by simp, by simp, fun n _ _ => ⟨ev_some 1 fun k => ?_, ev_some 1 fun k => ?_⟩⟩
    · rw [ephemerisref2_Sum.l0, if_neg (by omega), Int.add_zero]
    · rw [ephemerisref2_Sum.l0, if_neg (by omega), Int.add_zero]
  | cons s r ih =>
    intro i h0 hd
    obtain ⟨hlt, hs, ht⟩ := drop_cons z53 h0 hd
    have hs' : rd_T53 l i = s := hs
    have a9 : wrap64 (i + 1) = i + 1 := w64 (by omega) (by omega)
    have hb := hg s (drop_mem hd)
    obtain ⟨sn, c, p, sn', c', p', e1, e2, e3, e4, e5, e6, q1, q2, q3, q4, q5, q6⟩ := pair_ev hb t1 t2
    obtain ⟨d, d', d1, d2, d3, d4, d5, d6, run⟩ := ih (i + 1) (by omega) ht
    obtain ⟨g0, g1⟩ := arg_bound s.f2 t
    obtain ⟨g2, g3⟩ := arg_bound s.f2 (t + 86400)
    have hf1 : 0 ≤ s.f1 ∧ s.f1 < 1000000000 := by unfold bad at hb; omega
    have hlen : r.length ≤ 39 := by
      have := congrArg List.length hd
      rw [List.length_drop, List.length_cons] at this
      omega
    have hlc : ((s :: r).length : Int) = (r.length : Int) + 1 := by rw [List.length_cons]; push_cast; rfl
    have hms : mss (s :: r) = ms s + mss r := rfl
    rw [hlc, hms]
    refine ⟨p + d, p' + d', by omega, by omega, by omega, by omega, by omega, by omega, fun n b1 b2 => ?_⟩
    obtain ⟨r1, _⟩ := run (n + p) (by omega) (by omega)
    obtain ⟨_, r2⟩ := run (n + p') (by omega) (by omega)
    rw [Int.add_assoc] at r1 r2
    constructor
    · refine ev_step 1 (fun k => by rw [ephemerisref2_Sum.l0, if_pos hlt, if_pos h0, if_pos hlt, hs', a9]) ?_
      refine ev_bind e1 ?_
      rw [w64 (x := s.f1 * 1000000) (by omega) (by omega), w64 (x := arg s.f2 t + s.f1 * 1000000) (by omega) (by omega)]
      refine ev_bind e2 ?_
      refine Ev.congr (fun k => by rw [e3, Option.bind_some, w64 (x := n + p) (by omega) (by omega)]) r1
    · refine ev_step 1 (fun k => by rw [ephemerisref2_Sum.l0, if_pos hlt, if_pos h0, if_pos hlt, hs', a9]) ?_
      refine ev_bind e4 ?_
      rw [w64 (x := s.f1 * 1000000) (by omega) (by omega), w64 (x := arg s.f2 (t + 86400) + s.f1 * 1000000) (by omega) (by omega)]
      refine ev_bind e5 ?_
      refine Ev.congr (fun k => by rw [e6, Option.bind_some, w64 (x := n + p') (by omega) (by omega)]) r2
theorem tdiv_between (b : Int) : b / 1000000 ≤ Int.tdiv b 1000000 ∧ Int.tdiv b 1000000 ≤ -(-b / 1000000) := by
  rcases Int.lt_or_le b 0 with c | c
  · have e : Int.tdiv b 1000000 = -(Int.tdiv (-b) 1000000) := by rw [Int.neg_tdiv]; omega
    rw [e, Int.tdiv_eq_ediv_of_nonneg (by omega)]
    omega
  · rw [Int.tdiv_eq_ediv_of_nonneg c]
    omega
theorem SeriesSlopes : PureX := by
  intro s t w1 w2
  rcases s with ⟨m, b, l, d⟩
  obtain ⟨tw1, tw2⟩ : -9223372036854775808 ≤ t ∧ t ≤ 9223372036854775807 := w2
  refine ev_k ?_
  unfold ephemerislaw2_SeriesSlopes.f
  refine ev_bind series_works ?_
  refine Ev.congr (fun k => if_pos rfl) ?_
  show Ev (fun k => (series_Slope.f k m b l d).bind _) true
  have c0 := check_ev m b l d
  have c1 := sumErr_ev m b l d
  by_cases h : se m b l d = 0
  · obtain ⟨h1, h2, h3⟩ := se_zero h
    unfold hb at h2
    obtain ⟨q1, q2, run⟩ := slope_loop l h1 h3 m b d l (by omega) (by omega) l 0 (by omega) rfl
    have r1 := run 0 (by omega) (by omega)
    rw [Int.zero_add] at r1
    rw [h] at c0 c1
    have e1 : Ev (fun k => series_Slope.f k m b l d) (b / 1000000 - mss l, -(-b / 1000000) + mss l, 0) := by
      unfold series_Slope.f
      refine ev_bind c0 ?_
      exact Ev.congr (fun k => if_pos rfl) r1
    refine ev_bind e1 (ev_bind c1 ?_)
    refine Ev.congr (fun k => if_pos rfl) ?_
    refine Ev.congr (fun k => if_pos rfl) ?_
    have hle : b / 1000000 - mss l ≤ -(-b / 1000000) + mss l := by omega
    refine ev_step 1 (fun k => by rw [ephemerislaw2_SeriesSlopes.j0, decide_eq_false (by simp only; omega), if_neg (by simp), instErr_at, Option.bind_some]) ?_
    by_cases g : it t = 0
    · obtain ⟨i1, i2⟩ := it_zero g
      refine Ev.congr (fun k => by rw [if_pos g, w64 (x := t + 86400) (by omega) (by omega), instErr_at, Option.bind_some]) ?_
      by_cases g2 : it (t + 86400) = 0
      · obtain ⟨i3, i4⟩ := it_zero g2
        obtain ⟨p, p', d1, d2, d3, d4, d5, d6, run⟩ := sums2_ev i1 i4 l h1 h3 l 0 (by omega) rfl
        obtain ⟨r1, r2⟩ := run (m * 1048576) (by omega) (by omega)
        have s1 : Ev (fun k => ephemerisref2_Sum.f k m b l d t) (m * 1048576 + p) := by
          unfold ephemerisref2_Sum.f
          rw [w64 (x := m * 1048576) (by omega) (by omega)]
          exact r1
        have s2 : Ev (fun k => ephemerisref2_Sum.f k m b l d (t + 86400)) (m * 1048576 + p') := by
          unfold ephemerisref2_Sum.f
          rw [w64 (x := m * 1048576) (by omega) (by omega)]
          exact r2
        refine ev_step 1 (fun k => by rw [ephemerislaw2_SeriesSlopes.j1, if_neg (by simp [g2]), w64 (x := t + 86400) (by omega) (by omega)]) ?_
        refine ev_bind s2 (ev_bind s1 (ev_some 0 fun k => ?_))
        obtain ⟨v1, v2⟩ := tdiv_between b
        generalize Int.tdiv b 1000000 = v at *
        generalize mss l = M at *
        simp only
        have hL : (l.length : Int) ≤ 40 := by omega
        generalize (l.length : Int) = L at *
        have L0 : 0 ≤ L := by omega
        rw [w64 (x := (b / 1000000 - M) * 1048576) (by omega) (by omega), w64 (x := (b / 1000000 - M) * 1048576 - 134217728) (by omega) (by omega), w64 (x := m * 1048576 + p' - (m * 1048576 + p)) (by omega) (by omega), w64 (x := v) (by omega) (by omega), w64 (x := v * 1048576) (by omega) (by omega), w64 (x := (m * 1048576 + p' - (m * 1048576 + p)) * 1000) (by omega) (by omega), w64 (x := (m * 1048576 + p' - (m * 1048576 + p)) * 1000 + v * 1048576) (by omega) (by omega), if_pos (by omega), w64 (x := (-(-b / 1000000) + M) * 1048576) (by omega) (by omega), w64 (x := (-(-b / 1000000) + M) * 1048576 + 134217728) (by omega) (by omega)]
        exact congrArg some (decide_eq_true (by omega))
      · exact ev_some 1 fun k => by rw [ephemerislaw2_SeriesSlopes.j1, if_pos (by simp [g2])]
    · refine Ev.congr (fun k => if_neg g) ?_
      exact ev_some 1 fun k => by rw [ephemerislaw2_SeriesSlopes.j1, if_pos rfl]
  · have e1 : Ev (fun k => series_Slope.f k m b l d) (0, 0, se m b l d) := by
      unfold series_Slope.f
      refine ev_bind c0 ?_
      exact Ev.congr (fun k => if_neg h) (ev_some 0 fun k => rfl)
    refine ev_bind e1 (ev_bind c1 (ev_some 0 fun k => ?_))
    rw [if_neg h, none_at]
    rfl
end Go.Proofs.Ytelcegpaakbppaa.Pure
