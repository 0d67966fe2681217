/- acute: the angle of a direction in the first eighth of a turn, told by its loops alone. -/
import Derived.Test.YtmahlfjnejbcnaaTopSeasonsn29
namespace Go.Proofs.Ytmahlfjnejbcnaa.Acute
open Go.RowKit YtmahlfjnejbcnaaW.PrintWords YtmahlfjnejbcnaaW.PrintLast YtmahlfjnejbcnaaW.PrintMore Opn PAll Base Turn Fix Oct OctT SinT RefT Circ Over Units
set_option linter.unusedVariables false
set_option linter.unusedSimpArgs false
def os (a : Int) : Int := mx 0 (oSin (oX a) (fm (oX a) (oX a)) 9)
def oc (a : Int) : Int := mn 1152921504606846976 (oCos (fm (oX a) (oX a)) 9)
theorem st_S {a : Int} (h0 : 0 ≤ a) (h1 : a ≤ 125000000) : sinT (st a) = S (a * 1000000) ∧ cosT (st a) = C (a * 1000000) := by
 unfold S C
 rw [show a * 1000000 % 1000000000000000 = a * 1000000 by omega]
 unfold ag st
 rw [show (a * 1000000).toNat = a.toNat * 1000000 by omega, Nat.mul_assoc]
 exact ⟨rfl, rfl⟩
theorem oct_all {a : Int} (h0 : 0 ≤ a) (h1 : a ≤ 125000000) : Ev (fun k => trig_octant.f k a) (os a, oc a) ∧ 0 ≤ os a ∧ os a ≤ 1152921504606847060 ∧ 0 ≤ oc a ∧ oc a ≤ 1152921504606846976 ∧
  -84 ≤ (os a : Rat) - u * S (a * 1000000) ∧ (os a : Rat) - u * S (a * 1000000) ≤ 84 ∧ -84 ≤ (oc a : Rat) - u * C (a * 1000000) ∧ (oc a : Rat) - u * C (a * 1000000) ≤ 84 := by
 obtain ⟨s, c, r, b⟩ := octant_tells h0 h1
 have e := octant_at h0 h1 0
 rw [r 0] at e
 injection e with e
 injection e with e1 e2
 have e1 : s = os a := e1
 have e2 : c = oc a := e2
 subst e1; subst e2
 obtain ⟨q1, q2⟩ := st_S h0 h1
 rw [q1, q2] at b
 exact ⟨ev_some 10 r, b⟩
def rch (t a : Int) : Prop := os a / 536870912 * 2147483648 ≤ t * (oc a / 536870912)
theorem reaches_ev {t a : Int} (t0 : 0 ≤ t) (t1 : t ≤ 2147483648) (h0 : 0 ≤ a) (h1 : a ≤ 125000000) : (rch t a → Ev (fun k => trig_reaches.f k t a) true) ∧ (¬ rch t a → Ev (fun k => trig_reaches.f k t a) false) := by
 obtain ⟨e, b1, b2, b3, b4, _⟩ := oct_all h0 h1
 have q : 0 ≤ t * (oc a / 536870912) ∧ t * (oc a / 536870912) ≤ 2147483648 * 2147483648 := ⟨Int.mul_nonneg t0 (by omega), Int.mul_le_mul t1 (by omega) (by omega) (by omega)⟩
 unfold rch trig_reaches.f
 constructor
 ·intro h
  refine ev_bind e (ev_some 0 fun k => ?_)
  rw [w64 (x := os a / 536870912 * 2147483648) (by omega) (by omega), w64 (x := t * (oc a / 536870912)) (by omega) (by omega)]
  exact congrArg some (decide_eq_true h)
 ·intro h
  refine ev_bind e (ev_some 0 fun k => ?_)
  rw [w64 (x := os a / 536870912 * 2147483648) (by omega) (by omega), w64 (x := t * (oc a / 536870912)) (by omega) (by omega)]
  exact congrArg some (decide_eq_false h)
def Fit (t n : Int) : Prop := 0 ≤ n ∧ n ≤ 125000000 ∧ (n = 0 ∨ rch t n) ∧ (n = 125000000 ∨ ¬ rch t (n + 1))
theorem up_ev {t : Int} (t0 : 0 ≤ t) (t1 : t ≤ 2147483648) : ∀ (d : Nat) (a : Int), 0 ≤ a → a ≤ 125000000 → 125000000 - a ≤ (d : Int) → (a = 0 ∨ rch t a) → ∃ n, Ev (fun k => trig_acute.l4 k t a) n ∧ Fit t n
 | 0, a, h0, h1, hd, hr => ⟨a, ev_some 1 fun k => by rw [trig_acute.l4, if_neg (by omega)], h0, h1, hr, Or.inl (by omega)⟩
 | d + 1, a, h0, h1, hd, hr => by
  by_cases c : a < 125000000
  ·obtain ⟨r1, r2⟩ := reaches_ev t0 t1 (show 0 ≤ a + 1 by omega) (show a + 1 ≤ 125000000 by omega)
   by_cases q : rch t (a + 1)
   ·obtain ⟨n, e, f⟩ := up_ev t0 t1 d (a + 1) (by omega) (by omega) (by omega) (Or.inr q)
    refine ⟨n, ?_, f⟩
    refine ev_step 1 (fun k => by rw [trig_acute.l4, if_pos c, w64 (x := a + 1) (by omega) (by omega)]) ?_
    refine ev_bind (r1 q) ?_
    exact Ev.congr (fun k => if_pos rfl) e
   ·refine ⟨a, ?_, h0, h1, hr, Or.inr q⟩
    refine ev_step 1 (fun k => by rw [trig_acute.l4, if_pos c, w64 (x := a + 1) (by omega) (by omega)]) ?_
    refine ev_bind (r2 q) (ev_some 0 fun k => ?_)
    rw [if_neg (by simp)]
  ·exact ⟨a, ev_some 1 fun k => by rw [trig_acute.l4, if_neg c], h0, h1, hr, Or.inl (by omega)⟩
theorem down_ev {t : Int} (t0 : 0 ≤ t) (t1 : t ≤ 2147483648) : ∀ (d : Nat) (a : Int), 0 ≤ a → a ≤ 125000000 → a ≤ (d : Int) → ∃ n, Ev (fun k => trig_acute.l3 k t a) n ∧ Fit t n
 | 0, a, h0, h1, hd => by
  obtain ⟨n, e, f⟩ := up_ev t0 t1 125000000 a h0 h1 (by omega) (Or.inl (by omega))
  exact ⟨n, ev_step 2 (fun k => by rw [trig_acute.l3, if_neg (by omega), trig_acute.j4]) e, f⟩
 | d + 1, a, h0, h1, hd => by
  by_cases c : a > 0
  ·obtain ⟨r1, r2⟩ := reaches_ev t0 t1 h0 h1
   by_cases q : rch t a
   ·obtain ⟨n, e, f⟩ := up_ev t0 t1 125000000 a h0 h1 (by omega) (Or.inr q)
    refine ⟨n, ?_, f⟩
    refine ev_step 1 (fun k => by rw [trig_acute.l3, if_pos c]) ?_
    refine ev_bind (r1 q) ?_
    refine Ev.congr (fun k => if_pos rfl) ?_
    exact ev_step 1 (fun k => by rw [trig_acute.j4]) e
   ·obtain ⟨n, e, f⟩ := down_ev t0 t1 d (a - 1) (by omega) (by omega) (by omega)
    refine ⟨n, ?_, f⟩
    refine ev_step 1 (fun k => by rw [trig_acute.l3, if_pos c]) ?_
    refine ev_bind (r2 q) ?_
    refine Ev.congr (fun k => if_neg (by simp)) ?_
    rw [w64 (x := a - 1) (by omega) (by omega)]
    exact e
  ·obtain ⟨n, e, f⟩ := up_ev t0 t1 125000000 a h0 h1 (by omega) (Or.inl (by omega))
   exact ⟨n, ev_step 2 (fun k => by rw [trig_acute.l3, if_neg c, trig_acute.j4]) e, f⟩
theorem c_eighth {a : Int} (h0 : 0 ≤ a) (h1 : a ≤ 125000000) : 7071 / 10000 ≤ C (a * 1000000) := by
 have h := C_dec (a := a * 1000000) (b := 125000000000000) (by omega) (by omega) (by omega)
 have e : C 125000000000000 = cosT n8 := by
  unfold C
  rw [show (125000000000000 : Int) % 1000000000000000 = 125000000000000 by omega, show ag 125000000000000 = n8 by decide +kernel]
 rw [e] at h
 obtain ⟨⟨a1, a2⟩, ⟨a3, a4⟩⟩ := T_taylor 24 n8 y8_le
 have e1 := y8_e
 have e2 : 70710 / 100000 ≤ cosP (s1 * (n8 : Rat)) 24 := by decide +kernel
 have e2' : 70710678118654752440 / 100000000000000000000 ≤ cosP (s1 * (n8 : Rat)) 24 := by decide +kernel
 generalize F (s1 * (n8 : Rat)) 24 + s1 * dd 24 = e at *
 generalize cosP (s1 * (n8 : Rat)) 24 = P at *
 generalize cosT n8 = X at *
 generalize C (a * 1000000) = Y at *
 clear a3 a4 h0 h1
 grind
theorem newton_ev {t : Int} (t0 : 0 ≤ t) (t1 : t ≤ 2147483648) : ∀ (d : Nat) (a : Int), d ≤ 4 → 0 ≤ a → a ≤ 125000000 → ∃ n, Ev (fun k => trig_acute.l2 k t a (4 - (d : Int))) n ∧ Fit t n
 | 0, a, _, h0, h1 => by
  obtain ⟨n, e, f⟩ := down_ev t0 t1 125000000 a h0 h1 (by omega)
  exact ⟨n, ev_step 1 (fun k => by rw [trig_acute.l2, if_neg (by simp)]) e, f⟩
 | d + 1, a, hd, h0, h1 => by
  obtain ⟨e, b1, b2, b3, b4, q1, q2, q3, q4⟩ := oct_all h0 h1
  have hc := c_eighth h0 h1
  have hcw : 800000000000000000 ≤ oc a := by
   refine int_of_rat ?_
   rw [u_eq] at q3
   have : ((800000000000000000 : Int) : Rat) = 800000000000000000 := rfl
   rw [this]
   generalize C (a * 1000000) = Y at *
   clear q1 q2 q4 b1 b2 b3 b4
   grind
  have z1 : 0 ≤ t * (os a / 1073741824) ∧ t * (os a / 1073741824) ≤ 2147483648 * 1073741825 := ⟨Int.mul_nonneg t0 (by omega), Int.mul_le_mul t1 (by omega) (by omega) (by omega)⟩
  have z2 : 0 ≤ t * (oc a / 1073741824) ∧ t * (oc a / 1073741824) ≤ 2147483648 * 1073741824 := ⟨Int.mul_nonneg t0 (by omega), Int.mul_le_mul t1 (by omega) (by omega) (by omega)⟩
  have next : ∀ z : Int, ∃ n, Ev (fun k => trig_acute.l2 k t (mx 0 (mn 125000000 z)) (4 - (d : Int))) n ∧ Fit t n := by
   intro z
   exact newton_ev t0 t1 d _ (by omega) (mxl (a := 0)).1 (by
    have := (mnl (a := 125000000) (b := z)).1
    rcases mx_or 0 (mn 125000000 z) with w | w <;> omega)
  obtain ⟨n, e2, f⟩ := next (wrap64 (a - (wrap64 (Int.tdiv (wrap64 ((wrap64 ((os a / 1073741824) * 2147483648)) - (wrap64 (t * (oc a / 1073741824))))) (wrap64 (Int.tdiv (wrap64 ((wrap64 ((oc a / 1073741824) * 2147483648)) + (wrap64 (t * (os a / 1073741824))))) 159154943))))))
  refine ⟨n, ?_, f⟩
  have nz : ¬ (wrap64 (Int.tdiv (wrap64 ((wrap64 ((oc a / 1073741824) * 2147483648)) + (wrap64 (t * (os a / 1073741824))))) 159154943)) = 0 := by
   rw [w64 (x := oc a / 1073741824 * 2147483648) (by omega) (by omega), w64 (x := t * (os a / 1073741824)) (by omega) (by omega), w64 (x := oc a / 1073741824 * 2147483648 + t * (os a / 1073741824)) (by omega) (by omega), Int.tdiv_eq_ediv_of_nonneg (by omega), w64 (by omega) (by omega)]
   omega
  refine ev_step 1 (fun k => by rw [trig_acute.l2, if_pos (by omega)]) ?_
  refine ev_bind e ?_
  refine Ev.congr (fun k => if_neg nz) ?_
  rw [show wrap64 (4 - ((d + 1 : Nat) : Int) + 1) = 4 - (d : Int) by rw [w64 (by omega) (by omega)]; push_cast; omega]
  exact e2
theorem acute3_ev {y x : Int} (h0 : 0 ≤ y) (h1 : y ≤ x) (h2 : 1073741824 ≤ x) (h3 : x < 2147483648) : ∃ t n, 0 ≤ t ∧ t ≤ 2147483648 ∧ t * x ≤ y * 2147483648 ∧ y * 2147483648 < t * x + x ∧ Ev (fun k => trig_acute.l1 k y x) n ∧ Fit t n := by
 have q1 : Int.tdiv (y * 2147483648) x = y * 2147483648 / x := Int.tdiv_eq_ediv_of_nonneg (by omega)
 have q2 : y * 2147483648 / x * x ≤ y * 2147483648 := Int.ediv_mul_le _ (by omega)
 have q3 : y * 2147483648 < y * 2147483648 / x * x + x := by
  have := Int.lt_ediv_add_one_mul_self (y * 2147483648) (show 0 < x by omega)
  rw [Int.add_mul, Int.one_mul] at this
  exact this
 have q4 : 0 ≤ y * 2147483648 / x := Int.ediv_nonneg (by omega) (by omega)
 have q5 : y * 2147483648 / x ≤ 2147483648 := Int.ediv_le_of_le_mul (by omega) (by rw [Int.mul_comm]; exact Int.mul_le_mul_of_nonneg_left h1 (by omega))
 obtain ⟨n, e, f⟩ := newton_ev q4 q5 4 (y * 2147483648 / x * 125000000 / 2147483648) (by omega) (by omega) (by omega)
 refine ⟨y * 2147483648 / x, n, q4, q5, q2, q3, ?_, f⟩
 refine ev_step 1 (fun k => ?_) e
 rw [trig_acute.l1, if_neg (by omega), if_neg (by omega), w64 (x := y * 2147483648) (by omega) (by omega), q1, w64 (x := y * 2147483648 / x) (by omega) (by omega), w64 (x := y * 2147483648 / x * 125000000) (by omega) (by omega)]
 rfl
theorem acute1_ev : ∀ (d : Nat) {y x : Int}, 0 ≤ y → y ≤ x → 0 < x → x < 2147483648 → 1073741824 ≤ x * 2 ^ d → ∃ (j : Nat) (t n : Int), 0 ≤ t ∧ t ≤ 2147483648 ∧ t * (x * 2 ^ j) ≤ y * 2 ^ j * 2147483648 ∧ y * 2 ^ j * 2147483648 < t * (x * 2 ^ j) + x * 2 ^ j ∧ Ev (fun k => trig_acute.l1 k y x) n ∧ Fit t n
 | 0, y, x, h0, h1, h2, h3, hd => by
  obtain ⟨t, n, a1, a2, a3, a4, e, f⟩ := acute3_ev h0 h1 (by simpa using hd) h3
  exact ⟨0, t, n, a1, a2, by simpa using a3, by simpa using a4, e, f⟩
 | d + 1, y, x, h0, h1, h2, h3, hd => by
  by_cases c : x < 1073741824
  ·obtain ⟨j, t, n, a1, a2, a3, a4, e, f⟩ := acute1_ev d (y := y * 2) (x := x * 2) (by omega) (by omega) (by omega) (by omega) (by rw [Int.pow_succ, Int.mul_comm (2 ^ d) 2, ← Int.mul_assoc] at hd; exact hd)
   have ex : ∀ z : Int, z * 2 * 2 ^ j = z * 2 ^ (j + 1) := by intro z; rw [Int.pow_succ, Int.mul_comm (2 ^ j) 2, Int.mul_assoc]
   rw [ex, ex] at a3 a4
   refine ⟨j + 1, t, n, a1, a2, a3, a4, ?_, f⟩
   refine ev_step 1 (fun k => ?_) e
   rw [trig_acute.l1, if_pos c, w64 (x := y * 2) (by omega) (by omega), w64 (x := x * 2) (by omega) (by omega)]
  ·obtain ⟨t, n, a1, a2, a3, a4, e, f⟩ := acute3_ev h0 h1 (by omega) h3
   exact ⟨0, t, n, a1, a2, by simpa using a3, by simpa using a4, e, f⟩
theorem acute0_ev : ∀ (d : Nat) {y x : Int}, 0 ≤ y → y ≤ x → 2147483648 ≤ x → x < 2147483648 * 2 ^ d → ∃ (j : Nat) (t n y' x' : Int), y' = y / 2 ^ j ∧ x' = x / 2 ^ j ∧ 1073741824 ≤ x' ∧ x' < 2147483648 ∧ 0 ≤ t ∧ t ≤ 2147483648 ∧ t * x' ≤ y' * 2147483648 ∧ y' * 2147483648 < t * x' + x' ∧ Ev (fun k => trig_acute.l0 k y x) n ∧ Fit t n
 | 0, y, x, h0, h1, h2, h3 => by simp at h3; omega
 | d + 1, y, x, h0, h1, h2, h3 => by
  have e2 : ∀ z : Int, z / 2 ^ 1 = z / 2 := fun z => by rw [Int.pow_one]
  by_cases c : x / 2 < 2147483648
  ·obtain ⟨t, n, a1, a2, a3, a4, e, f⟩ := acute3_ev (y := y / 2) (x := x / 2) (by omega) (by omega) (by omega) c
   refine ⟨1, t, n, y / 2, x / 2, (e2 y).symm, (e2 x).symm, by omega, c, a1, a2, a3, a4, ?_, f⟩
   refine ev_step 2 (fun k => ?_) e
   rw [trig_acute.l0, if_pos (by omega), trig_acute.l0, if_neg (by omega)]
  ·obtain ⟨j, t, n, y', x', b1, b2, b3, b4, a1, a2, a3, a4, e, f⟩ := acute0_ev d (y := y / 2) (x := x / 2) (by omega) (by omega) (by omega) (by rw [Int.pow_succ] at h3; omega)
   have ed : ∀ z : Int, z / 2 / 2 ^ j = z / 2 ^ (j + 1) := by
    intro z
    rw [Int.ediv_ediv_of_nonneg (by omega), Int.pow_succ, Int.mul_comm]
   rw [ed] at b1 b2
   refine ⟨j + 1, t, n, y', x', b1, b2, b3, b4, a1, a2, a3, a4, ?_, f⟩
   refine ev_step 1 (fun k => ?_) e
   rw [trig_acute.l0, if_pos (by omega)]
end Go.Proofs.Ytmahlfjnejbcnaa.Acute
