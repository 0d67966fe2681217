/- Equator of the sun's package: its boxes hold the real direction. -/
import Derived.Test.YtmahlfjnejbcnaaTopSeasonsn40
import Derived.Test.YtmahlfjnejbcnaaTopSeasonsn48
namespace Go.Proofs.Ytmahlfjnejbcnaa.EqT
open Go Go.RowKit YtmahlfjnejbcnaaW.PrintWords YtmahlfjnejbcnaaW.PrintLast YtmahlfjnejbcnaaW.PrintMore PAll Base Turn Fix OctT SinT RefT Circ Over Units Args Vals MulT UnitT Cone Arcs ArcT Box ArcSinT NarrowT
set_option linter.unusedVariables false
set_option linter.unusedSimpArgs false
theorem ob_ev {α β : Type} {g : Nat → Option α} {f : Nat → α → Option β} {a : α} {r : β} (h : Ev g a) (k : Ev (fun n => f n a) r) : Ev (fun n => Sx.ob (g n) (f n)) r := by
 refine Ev.congr (fun n => Sx.ob_eq _ _) ?_
 exact ev_bind h k
theorem oif_pos {β : Type} {c : Prop} [inst : Decidable c] {A B : Option β} (h : c) : Sx.oif c A B = A := by rw [Sx.oif_eq, if_pos h]
theorem oif_neg {β : Type} {c : Prop} [inst : Decidable c] {A B : Option β} (h : ¬ c) : Sx.oif c A B = B := by rw [Sx.oif_eq, if_neg h]
theorem iw (x : Int) : IntKind.i64.wrap x = wrap64 x := i64_w x
def Ce : Rat := C 65109000000000
def Se : Rat := S 65109000000000
def eX (t s : Int) : Rat := C s * C t
def eY (t s : Int) : Rat := C s * S t * Ce - S s * Se
def eZ (t s : Int) : Rat := C s * S t * Se + S s * Ce
theorem e_norm (t s : Int) : eX t s * eX t s + eY t s * eY t s + eZ t s * eZ t s = 1 := by
 have h1 := SC_sq t
 have h2 := SC_sq s
 have h3 : Ce * Ce + Se * Se = 1 := SC_sq 65109000000000
 unfold eX eY eZ
 generalize C s = a at *
 generalize S s = b at *
 generalize C t = c at *
 generalize S t = d at *
 generalize Ce = e at *
 generalize Se = f at *
 have : a * c * (a * c) + (a * d * e - b * f) * (a * d * e - b * f) + (a * d * f + b * e) * (a * d * f + b * e) = a * a * (c * c) + (a * a * (d * d) + b * b) * (e * e + f * f) := by grind
 rw [this, h3, Rat.mul_one]
 have : a * a * (c * c) + (a * a * (d * d) + b * b) = a * a * (c * c + d * d) + b * b := by grind
 rw [this, h1, Rat.mul_one, h2]
theorem tilt_bounds : (917 / 1000 ≤ Ce ∧ Ce ≤ 918 / 1000) ∧ (397 / 1000 ≤ Se ∧ Se ≤ 398 / 1000) := by
 have e : ag 65109000000000 = 65109000000000 * 1099511627776 := by decide +kernel
 have y : (9174 / 10000 ≤ cosP (s1 * ((65109000000000 * 1099511627776 : Nat) : Rat)) 20 ∧ cosP (s1 * ((65109000000000 * 1099511627776 : Nat) : Rat)) 20 ≤ 9176 / 10000) ∧ (3975 / 10000 ≤ sinP (s1 * ((65109000000000 * 1099511627776 : Nat) : Rat)) 20 ∧ sinP (s1 * ((65109000000000 * 1099511627776 : Nat) : Rat)) 20 ≤ 3979 / 10000) ∧ s1 * ((65109000000000 * 1099511627776 : Nat) : Rat) ≤ 1 := by decide +kernel
 obtain ⟨h1, h2, h3, h4⟩ := taylor20 (n := ag 65109000000000) (by rw [e]; exact y.2.2) (sn_nonneg _)
 obtain ⟨⟨g1, g2⟩, ⟨g3, g4⟩, _⟩ := y
 have a := S_arg 65109000000000 (by omega) (by omega)
 unfold Ce Se
 rw [a.1, a.2]
 rw [e] at *
 generalize cosT (65109000000000 * 1099511627776) = x at *
 generalize cosP (s1 * ((65109000000000 * 1099511627776 : Nat) : Rat)) 20 = y at *
 generalize sinT (65109000000000 * 1099511627776) = x' at *
 generalize sinP (s1 * ((65109000000000 * 1099511627776 : Nat) : Rat)) 20 = y' at *
 rw [u_eq] at *
 refine ⟨⟨?_, ?_⟩, ⟨?_, ?_⟩⟩ <;> grind
theorem clampR {L H : Int} {v : Rat} (h : L ≤ H) (a : (L : Rat) ≤ v + 1 / 1000000000) (b : v ≤ (H : Rat) + 1 / 1000000000) : ∃ p : Rat, (L : Rat) ≤ p ∧ p ≤ (H : Rat) ∧ Nr (p - v) (1 / 1000000000) := by
 have h' := cle h
 rcases Rat.le_total (a := (L : Rat)) (b := v) with n | n
 ·rcases Rat.le_total (a := v) (b := (H : Rat)) with m | m
  ·exact ⟨v, n, m, by unfold Nr; constructor <;> grind⟩
  ·exact ⟨(H : Rat), h', by grind, by unfold Nr; constructor <;> grind⟩
 ·exact ⟨(L : Rat), by grind, h', by unfold Nr; constructor <;> grind⟩
theorem holdsC_le {L H lo hi : Int} (A : HoldsC L H lo hi) (h : lo ≤ hi) : L ≤ H := by
 obtain ⟨a, b⟩ := A.tell (lo * 1000000) (by omega) (by omega)
 generalize C (lo * 1000000) = c at *
 rcases Int.lt_or_le H L with n | n
 ·exfalso
  have := cle (show H + 1 ≤ L by omega)
  push_cast at this
  clear A
  grind
 ·exact n
theorem box_fix {l h : Int} {w : Rat} (b : Box' l h w) (w1 : -1 ≤ w) (w2 : w ≤ 1) : inU (mx (-1000000000) l) ∧ inU (mn 1000000000 h) ∧ mx (-1000000000) l ≤ mn 1000000000 h ∧ mn 1000000000 h - mx (-1000000000) l ≤ 3 ∧ ((mx (-1000000000) l : Int) : Rat) ≤ 1000000000 * w ∧ 1000000000 * w ≤ ((mn 1000000000 h : Int) : Rat) := by
 have e1 := lo_of b (v := w) (by grind) w1
 have e2 := hi_of b (v := w) (by grind) w2
 have le : mx (-1000000000) l ≤ mn 1000000000 h := by
  have := Rat.le_trans e1 e2
  exact int_of_rat this
 obtain ⟨b1, b2, b3⟩ := b
 have hl : l ≤ 1000000000 := by
  refine int_of_rat ?_
  push_cast
  grind
 have hh : -1000000000 ≤ h := by
  refine int_of_rat ?_
  push_cast
  grind
 unfold inU
 refine ⟨?_, ?_, le, ?_, e1, e2⟩
 ·unfold mx; split <;> omega
 ·unfold mn; split <;> omega
 ·unfold mx mn; split <;> split <;> omega
theorem unit_ev2 {a0 a1 b0 b1 : Int} (h1 : inU a0) (h2 : inU a1) (h3 : inU b0) (h4 : inU b1) (ha : a0 ≤ a1) (hb : b0 ≤ b1) : ∃ L H : Int, Ev (fun k => sun_Unit.f k a0 a1 b0 b1) (L, H) ∧ inU L ∧ inU H ∧ L ≤ H ∧ H - L ≤ (a1 - a0) + (b1 - b0) + 2 ∧
  (∀ p q : Rat, (a0 : Rat) ≤ p → p ≤ (a1 : Rat) → (b0 : Rat) ≤ q → q ≤ (b1 : Rat) → (1000000000 * (L : Rat) ≤ p * q ∧ p * q ≤ 1000000000 * (H : Rat))) ∧ (∀ c, 0 ≤ c → -c ≤ b0 → b1 ≤ c → -c - 1 ≤ L ∧ H ≤ c + 1) := by
 obtain ⟨m, M, e, l, g, lm, gm⟩ := mul_ev h1 h2 h3 h4 ha hb
 have r := @rprod a0 a1 b0 b1 m M l g
 obtain ⟨i1, j1⟩ := prod_in h1 h3
 obtain ⟨i2, j2⟩ := prod_in h1 h4
 obtain ⟨i3, j3⟩ := prod_in h2 h3
 obtain ⟨i4, j4⟩ := prod_in h2 h4
 have w : M - m ≤ 1000000000 * ((a1 - a0) + (b1 - b0)) := by
  rcases gm with c | c | c | c <;> rcases lm with d | d | d | d <;> rw [c, d] <;> exact pair_diff (by omega) (by omega) (by omega) (by omega) (by assumption) (by assumption)
 have m0 : -1000000000000000000 ≤ m := by rcases lm with d | d | d | d <;> omega
 have M0 : M ≤ 1000000000000000000 := by rcases gm with d | d | d | d <;> omega
 have mM : m ≤ M := by omega
 have bnd : ∀ c, 0 ≤ c → -c ≤ b0 → b1 ≤ c → -(1000000000 * c) ≤ m ∧ M ≤ 1000000000 * c := by
  intro c c0 hc0 hc1
  have q : ∀ a b : Int, inU a → b0 ≤ b → b ≤ b1 → -(1000000000 * c) ≤ a * b ∧ a * b ≤ 1000000000 * c := by
   intro a b ha hb0 hb1
   unfold inU at ha
   rcases Int.lt_or_le a 0 with n | n
   ·have e1 := Int.mul_le_mul_of_nonneg_left (show b ≤ c by omega) (show 0 ≤ -a by omega)
    have e2 := Int.mul_le_mul_of_nonneg_left (show -b ≤ c by omega) (show 0 ≤ -a by omega)
    have e3 := Int.mul_le_mul_of_nonneg_right (show -a ≤ 1000000000 by omega) c0
    rw [Int.neg_mul, Int.neg_mul] at e1
    rw [Int.neg_mul_neg, Int.neg_mul] at e2
    rw [Int.neg_mul] at e3
    constructor <;> omega
   ·have e1 := Int.mul_le_mul_of_nonneg_left (show b ≤ c by omega) n
    have e2 := Int.mul_le_mul_of_nonneg_left (show -b ≤ c by omega) n
    have e3 := Int.mul_le_mul_of_nonneg_right ha.2 c0
    rw [Int.mul_neg] at e2
    constructor <;> omega
  have q1 := q a0 b0 h1 (Int.le_refl _) hb
  have q2 := q a0 b1 h1 hb (Int.le_refl _)
  have q3 := q a1 b0 h2 (Int.le_refl _) hb
  have q4 := q a1 b1 h2 hb (Int.le_refl _)
  constructor
  ·rcases lm with d | d | d | d <;> omega
  ·rcases gm with d | d | d | d <;> omega
 clear lm gm l g i1 i2 i3 i4 j1 j2 j3 j4
 have sc := scale_ev (lo := m) (hi := M) (num := 1) (den := 1000000000) m0 mM M0 (by omega) (by omega) (by omega) (by omega) (by omega) (by omega) (by omega) (by omega)
 rw [if_neg (by omega), Int.mul_one, Int.mul_one] at sc
 refine ⟨m / 1000000000, -(-M / 1000000000), ?_, ?_, ?_, by omega, by omega, ?_, fun c c0 hc0 hc1 => by have := bnd c c0 hc0 hc1; omega⟩
 ·unfold sun_Unit.f
  refine obv_ (ev_some 0 fun k => clamp_id h1 h2) (obv_ (ev_some 0 fun k => clamp_id h3 h4) ?_)
  exact obv_ e (obv_ sc (ev_some 0 fun k => rfl))
 ·unfold inU; omega
 ·unfold inU; omega
 ·intro p q p0 p1 q0 q1
  obtain ⟨t0, t1⟩ := r p0 p1 q0 q1
  constructor
  ·refine Rat.le_trans ?_ t0
   have := cle (show 1000000000 * (m / 1000000000) ≤ m by omega)
   generalize m / 1000000000 = L at *
   push_cast at this
   exact this
  ·refine Rat.le_trans t1 ?_
   have := cle (show M ≤ 1000000000 * -(-M / 1000000000) by omega)
   generalize -(-M / 1000000000) = H at *
   push_cast at this
   exact this
structure EqBox (y0 y1 x0 x1 z0 z1 lo hi la lb : Int) : Prop where
 tell : ∀ t s, lo * 1000000 ≤ t → t ≤ hi * 1000000 → la * 1000000 ≤ s → s ≤ lb * 1000000 → ∃ η ξ ζ : Rat, ((y0 : Rat) ≤ η ∧ η ≤ (y1 : Rat)) ∧ ((x0 : Rat) ≤ ξ ∧ ξ ≤ (x1 : Rat)) ∧ ((z0 : Rat) ≤ ζ ∧ ζ ≤ (z1 : Rat)) ∧
  Nr (η - 1000000000 * eY t s) (1 / 100000000) ∧ Nr (ξ - 1000000000 * eX t s) (1 / 100000000) ∧ Nr (ζ - 1000000000 * eZ t s) (1 / 100000000)
 y : -2000000000 ≤ y0 ∧ y0 ≤ y1 ∧ y1 ≤ 2000000000
 yb : -1400000000 ≤ y0 ∧ y1 ≤ 1400000000
 x : -1000000000 ≤ x0 ∧ x0 ≤ x1 ∧ x1 ≤ 1000000000
 z : -2000000000 ≤ z0 ∧ z0 ≤ z1 ∧ z1 ≤ 2000000000
 wy : hi - lo ≤ 1000000000 → y1 - y0 ≤ 22 + 7 * (hi - lo) + 14 * (lb - la)
 wx : hi - lo ≤ 1000000000 → x1 - x0 ≤ 8 + 7 * (hi - lo) + 7 * (lb - la)
 wz : hi - lo ≤ 1000000000 → z1 - z0 ≤ 22 + 7 * (hi - lo) + 14 * (lb - la)
theorem dlo {a x : Rat} (h : 1000000000 * a ≤ x) : a ≤ x / 1000000000 := by grind
theorem dhi {a x : Rat} (h : x ≤ 1000000000 * a) : x / 1000000000 ≤ a := by grind
theorem lo3 {w p a b : Rat} (h : 1000000000 * w ≤ p * (1000000000 * a) / 1000000000 * (1000000000 * b)) : w ≤ p * a * b := by grind
theorem hi3 {w p a b : Rat} (h : p * (1000000000 * a) / 1000000000 * (1000000000 * b) ≤ 1000000000 * w) : p * a * b ≤ w := by grind
theorem lo2 {w a b : Rat} (h : 1000000000 * w ≤ 1000000000 * a * (1000000000 * b)) : w ≤ 1000000000 * (a * b) := by grind
theorem hi2 {w a b : Rat} (h : 1000000000 * a * (1000000000 * b) ≤ 1000000000 * w) : 1000000000 * (a * b) ≤ w := by grind
theorem le_sub' {a b c d : Rat} (h : a ≤ b) (k : c ≤ d) : a - d ≤ b - c := by grind
theorem le_add' {a b c d : Rat} (h : a ≤ b) (k : c ≤ d) : a + c ≤ b + d := by grind
theorem nY {p cs st ce w : Rat} (h : Nr ((p - 1000000000 * cs) * st * ce) (1 / 1000000000)) : Nr (p * st * ce - 1000000000 * w - 1000000000 * (cs * st * ce - w)) (1 / 100000000) := by
 unfold Nr at *
 constructor <;> grind
theorem nZ {p cs st ce w : Rat} (h : Nr ((p - 1000000000 * cs) * st * ce) (1 / 1000000000)) : Nr (p * st * ce + 1000000000 * w - 1000000000 * (cs * st * ce + w)) (1 / 100000000) := by
 unfold Nr at *
 constructor <;> grind
theorem nX {p k cs ct : Rat} (h : Nr ((p - 1000000000 * cs) * k) (11 / 10)) (g : Nr (cs * (k - 1000000000 * ct)) (1 / 1000000000)) : Nr (p * k / 1000000000 - 1000000000 * (cs * ct)) (1 / 100000000) := by
 unfold Nr at *
 constructor <;> grind
theorem mul1 {d a e : Rat} (h : Nr d e) (a0 : -1 ≤ a) (a1 : a ≤ 1) : Nr (d * a) e := by
 unfold Nr at *
 have := OctT.abs_mul h.1 h.2 a0 a1
 constructor <;> grind
theorem mulk {d k : Rat} (h : Nr d (1 / 1000000000)) (a0 : -1000000000 ≤ k) (a1 : k ≤ 1000000000) : Nr (d * k) (11 / 10) := by
 unfold Nr at *
 have := OctT.abs_mul h.1 h.2 a0 a1
 constructor <;> grind
theorem mull {d a : Rat} (h : Nr d (1 / 1000000000)) (a0 : -1 ≤ a) (a1 : a ≤ 1) : Nr (a * d) (1 / 1000000000) := by
 unfold Nr at *
 have := OctT.abs_mul h.1 h.2 a0 a1
 constructor <;> grind
theorem mk_box {lo hi la lb sL sH cL cH lL lH kL kH bL bH dL dH iL iH uL uH vL vH wL wH rL rH xL xH : Int} (h1 : lo ≤ hi) (h2 : la ≤ lb)
  (A : Holds lL lH lo hi) (B : HoldsC kL kH lo hi) (D : Holds bL bH la lb) (E : HoldsC dL dH la lb)
  (s0 : inU sL ∧ inU sH ∧ sL ≤ sH ∧ sH - sL ≤ 3 ∧ (sL : Rat) ≤ 1000000000 * Se ∧ 1000000000 * Se ≤ (sH : Rat)) (c0 : inU cL ∧ inU cH ∧ cL ≤ cH ∧ cH - cL ≤ 3 ∧ (cL : Rat) ≤ 1000000000 * Ce ∧ 1000000000 * Ce ≤ (cH : Rat))
  (I : inU iL ∧ inU iH ∧ iL ≤ iH ∧ iH - iL ≤ (dH - dL) + (lH - lL) + 2 ∧ ∀ p q : Rat, (dL : Rat) ≤ p → p ≤ (dH : Rat) → (lL : Rat) ≤ q → q ≤ (lH : Rat) → 1000000000 * (iL : Rat) ≤ p * q ∧ p * q ≤ 1000000000 * (iH : Rat))
  (U : inU uL ∧ inU uH ∧ uL ≤ uH ∧ uH - uL ≤ (iH - iL) + (sH - sL) + 2 ∧ ∀ p q : Rat, (iL : Rat) ≤ p → p ≤ (iH : Rat) → (sL : Rat) ≤ q → q ≤ (sH : Rat) → 1000000000 * (uL : Rat) ≤ p * q ∧ p * q ≤ 1000000000 * (uH : Rat))
  (V : inU vL ∧ inU vH ∧ vL ≤ vH ∧ vH - vL ≤ (bH - bL) + (cH - cL) + 2 ∧ ∀ p q : Rat, (bL : Rat) ≤ p → p ≤ (bH : Rat) → (cL : Rat) ≤ q → q ≤ (cH : Rat) → 1000000000 * (vL : Rat) ≤ p * q ∧ p * q ≤ 1000000000 * (vH : Rat))
  (W : inU wL ∧ inU wH ∧ wL ≤ wH ∧ wH - wL ≤ (iH - iL) + (cH - cL) + 2 ∧ ∀ p q : Rat, (iL : Rat) ≤ p → p ≤ (iH : Rat) → (cL : Rat) ≤ q → q ≤ (cH : Rat) → 1000000000 * (wL : Rat) ≤ p * q ∧ p * q ≤ 1000000000 * (wH : Rat))
  (R : inU rL ∧ inU rH ∧ rL ≤ rH ∧ rH - rL ≤ (bH - bL) + (sH - sL) + 2 ∧ ∀ p q : Rat, (bL : Rat) ≤ p → p ≤ (bH : Rat) → (sL : Rat) ≤ q → q ≤ (sH : Rat) → 1000000000 * (rL : Rat) ≤ p * q ∧ p * q ≤ 1000000000 * (rH : Rat))
  (X : inU xL ∧ inU xH ∧ xL ≤ xH ∧ xH - xL ≤ (dH - dL) + (kH - kL) + 2 ∧ ∀ p q : Rat, (dL : Rat) ≤ p → p ≤ (dH : Rat) → (kL : Rat) ≤ q → q ≤ (kH : Rat) → 1000000000 * (xL : Rat) ≤ p * q ∧ p * q ≤ 1000000000 * (xH : Rat)) (Wb : -918000010 ≤ wL ∧ wH ≤ 918000010) (Rb : -398000010 ≤ rL ∧ rH ≤ 398000010) :
  EqBox (wL - rH) (wH - rL) xL xH (uL + vL) (uH + vH) lo hi la lb := by
 obtain ⟨i1, i2, i3, i4, I⟩ := I
 obtain ⟨u1, u2, u3, u4, U⟩ := U
 obtain ⟨v1, v2, v3, v4, V⟩ := V
 obtain ⟨w1, w2, w3, w4, W⟩ := W
 obtain ⟨r1, r2, r3, r4, R⟩ := R
 obtain ⟨x1, x2, x3, x4, X⟩ := X
 obtain ⟨s1, s2, s3, s4, s5, s6⟩ := s0
 obtain ⟨c1, c2, c3, c4, c5, c6⟩ := c0
 have dl := E.wide
 have kl := B.wide
 have al := A.wide
 have hdl := holdsC_le E h2
 have hkl := holdsC_le B h1
 unfold inU at *
 refine ⟨?_, by omega, by omega, by omega, by omega, fun hw => by have := al hw; have := D.wide; by_cases g : lb - la ≤ 1000000000 <;> (first | (have := this g; omega) | omega), fun hw => by have := al hw; omega, fun hw => by have := al hw; have := D.wide; by_cases g : lb - la ≤ 1000000000 <;> (first | (have := this g; omega) | omega)⟩
 intro t s t0 t1 q0 q1
 obtain ⟨a1, a2⟩ := A.tell t t0 t1
 obtain ⟨b1, b2⟩ := B.tell t t0 t1
 obtain ⟨d1, d2⟩ := D.tell s q0 q1
 obtain ⟨e1, e2⟩ := E.tell s q0 q1
 obtain ⟨p, p1, p2, p3⟩ := clampR hdl e1 e2
 obtain ⟨k, k1, k2, k3⟩ := clampR hkl b1 b2
 obtain ⟨m1, m2, m3, m4⟩ := SC_bound t
 obtain ⟨n1, n2, n3, n4⟩ := SC_bound s
 obtain ⟨w1', w2', w3', w4'⟩ := SC_bound 65109000000000
 obtain ⟨I1, I2⟩ := I p (1000000000 * S t) p1 p2 a1 a2
 obtain ⟨U1, U2⟩ := U (p * (1000000000 * S t) / 1000000000) (1000000000 * Se) (dlo I1) (dhi I2) s5 s6
 obtain ⟨V1, V2⟩ := V (1000000000 * S s) (1000000000 * Ce) d1 d2 c5 c6
 obtain ⟨W1, W2⟩ := W (p * (1000000000 * S t) / 1000000000) (1000000000 * Ce) (dlo I1) (dhi I2) c5 c6
 obtain ⟨R1, R2⟩ := R (1000000000 * S s) (1000000000 * Se) d1 d2 s5 s6
 obtain ⟨X1, X2⟩ := X p k p1 p2 k1 k2
 have kb0 : (-1000000000 : Rat) ≤ k := by
  have := cle B.lo1
  push_cast at this
  exact Rat.le_trans this k1
 have kb1 : k ≤ 1000000000 := by
  have := cle B.hi1
  push_cast at this
  exact Rat.le_trans k2 this
 have pst := mul1 p3 m3 m4
 refine ⟨p * S t * Ce - 1000000000 * (S s * Se), p * k / 1000000000, p * S t * Se + 1000000000 * (S s * Ce), ⟨?_, ?_⟩, ⟨dlo X1, dhi X2⟩, ⟨?_, ?_⟩, nY (mul1 pst w1' w2'), nX (mulk p3 kb0 kb1) (mull k3 n1 n2), nZ (mul1 pst w3' w4')⟩
 ·push_cast; exact le_sub' (lo3 W1) (hi2 R2)
 ·push_cast; exact le_sub' (hi3 W2) (lo2 R1)
 ·push_cast; exact le_add' (lo3 U1) (lo2 V1)
 ·push_cast; exact le_add' (hi3 U2) (hi2 V2)
theorem g1 {p q : Rat} (h : Nr (p - 1152921504606846976 / 1000000000 * q) 42000000) (b : -(1 / 10000000000 * 1500000000) ≤ q) : -2100000000 ≤ p := by
 unfold Nr at h; grind
theorem g2 {p q : Rat} (h : Nr (p - 1152921504606846976 / 1000000000 * q) 42000000) (b : q ≤ 1 / 10000000000 * 1500000000) : p ≤ 2100000000 := by
 unfold Nr at h; grind
theorem g3 {p q p' q' : Rat} (h : Nr (p - 1152921504606846976 / 1000000000 * q) 42000000) (h' : Nr (p' - 1152921504606846976 / 1000000000 * q') 42000000) (b : -(1 / 1000000000 * 1500000000) ≤ q + q') : -2100000000 ≤ p + p' := by
 unfold Nr at h h'; grind
theorem d1 {a s ζ Z z : Rat} (h : 1000000000 * s ≤ a + 2) (c : a ≤ 1000000000 * Z + 1 / 100000000) (e : Nr (z - u * Z) 20000000) : u * s ≤ z + 4290000000 := by
 rw [u_eq] at *
 unfold Nr at e
 grind
theorem d2 {a s ζ Z z : Rat} (h : a ≤ 1000000000 * s + 2) (c : 1000000000 * Z - 1 / 100000000 ≤ a) (e : Nr (z - u * Z) 20000000) : z ≤ u * s + 4290000000 := by
 rw [u_eq] at *
 unfold Nr at e
 grind
theorem n1 {ζ Z : Rat} (h : Nr (ζ - 1000000000 * Z) (1 / 100000000)) : ζ ≤ 1000000000 * Z + 1 / 100000000 ∧ 1000000000 * Z - 1 / 100000000 ≤ ζ := by
 unfold Nr at h
 constructor <;> grind
theorem bne0 {x : Int} (h : x = 0) : ¬ (x != 0) = true := by simp [h]
theorem bne1 {x : Int} (h : x ≠ 0) : (x != 0) = true := by simp [h]
theorem mc1 {c : Rat} (h : c ≤ 918 / 1000) : 1000000000 * c ≤ 918000000 := by grind
theorem mc2 {c : Rat} (h : 917 / 1000 ≤ c) : 0 ≤ 1000000000 * c := by grind
theorem mc3 {c : Rat} (h : c ≤ 398 / 1000) : 1000000000 * c ≤ 398000000 := by grind
theorem mc4 {c : Rat} (h : 397 / 1000 ≤ c) : 0 ≤ 1000000000 * c := by grind
theorem equator_ev {lo hi la lb : Int} (h1 : sp lo hi = 0) (h2 : sp la lb = 0) (l0 : -125000000 ≤ la) (l1 : lb ≤ 125000000) : ∃ y0 y1 x0 x1 z0 z1, EqBox y0 y1 x0 x1 z0 z1 lo hi la lb ∧
  (∀ e, e ≠ 0 → Ev (fun k => trig_Arc.f k y0 y1 x0 x1) (0, 0, e) → Ev (fun k => sun_Equator.f k lo hi la lb) (0, 0, 0, 0, e)) ∧
  (∀ a b A B, Ev (fun k => trig_Arc.f k y0 y1 x0 x1) (a, b, 0) → Ev (fun k => trig_ArcSin.f k z0 z1) (A, B, 0) → Ev (fun k => sun_Equator.f k lo hi la lb) (a, b, A, B, 0)) := by
 obtain ⟨g1, g2, g3⟩ := sp_zero h1
 obtain ⟨f1, f2, f3⟩ := sp_zero h2
 obtain ⟨sl, sh, es, bs⟩ := sin_ev (a := 65109000) (by omega) (by omega)
 obtain ⟨cl, ch, ec, bc⟩ := cos_ev (a := 65109000) (by omega) (by omega)
 obtain ⟨lL, lH, e5, A⟩ := over_ev (lo := lo) (hi := hi) (by omega) (by omega) (by omega)
 obtain ⟨kL, kH, e6, B⟩ := cosover_ev (lo := lo) (hi := hi) (by omega) (by omega) (by omega)
 obtain ⟨bL, bH, e7, D⟩ := over_ev (lo := la) (hi := lb) (by omega) (by omega) (by omega)
 obtain ⟨dL, dH, e8, E⟩ := cosover_ev (lo := la) (hi := lb) (by omega) (by omega) (by omega)
 obtain ⟨w1, w2, w3, w4⟩ := SC_bound 65109000000000
 have bs' := box_fix (box_less bs) w3 w4
 have bc' := box_fix bc w1 w2
 rw [show (65109000 : Int) * 1000000 = 65109000000000 by omega] at bs' bc'
 obtain ⟨s1, s2, s3, s4, s5, s6⟩ := bs'
 obtain ⟨c1, c2, c3, c4, c5, c6⟩ := bc'
 generalize mx (-1000000000) sl = sL at *
 generalize mn 1000000000 sh = sH at *
 generalize mx (-1000000000) cl = cL at *
 generalize mn 1000000000 ch = cH at *
 obtain ⟨o1, o2⟩ := over_lo_hi A g2
 obtain ⟨o3, o4⟩ := cosover_lo_hi B g2
 obtain ⟨o5, o6⟩ := over_lo_hi D f2
 obtain ⟨o7, o8⟩ := cosover_lo_hi E f2
 have v1 := holds_le A g2
 have v2 := EqT.holdsC_le B g2
 have v3 := holds_le D f2
 have v4 := EqT.holdsC_le E f2
 obtain ⟨iL, iH, u1, I⟩ := unit_ev (a0 := dL) (a1 := dH) (b0 := lL) (b1 := lH) ⟨E.lo1, o7⟩ ⟨o8, E.hi1⟩ ⟨A.lo1, o1⟩ ⟨o2, A.hi1⟩ v4 v1
 obtain ⟨uL, uH, u2, U⟩ := unit_ev (a0 := iL) (a1 := iH) (b0 := sL) (b1 := sH) I.1 I.2.1 s1 s2 I.2.2.1 s3
 obtain ⟨vL, vH, u3, V⟩ := unit_ev (a0 := bL) (a1 := bH) (b0 := cL) (b1 := cH) ⟨D.lo1, o5⟩ ⟨o6, D.hi1⟩ c1 c2 v3 c3
 obtain ⟨wL, wH, u4, W⟩ := unit_ev2 (a0 := iL) (a1 := iH) (b0 := cL) (b1 := cH) I.1 I.2.1 c1 c2 I.2.2.1 c3
 obtain ⟨rL, rH, u5, R⟩ := unit_ev2 (a0 := bL) (a1 := bH) (b0 := sL) (b1 := sH) ⟨D.lo1, o5⟩ ⟨o6, D.hi1⟩ s1 s2 v3 s3
 obtain ⟨xL, xH, u6, X⟩ := unit_ev (a0 := dL) (a1 := dH) (b0 := kL) (b1 := kH) ⟨E.lo1, o7⟩ ⟨o8, E.hi1⟩ ⟨B.lo1, o3⟩ ⟨o4, B.hi1⟩ v4 v2
 obtain ⟨⟨t1, t2⟩, ⟨t3, t4⟩⟩ := tilt_bounds
 have cb : cL ≤ 918000000 ∧ 0 ≤ cH := by
  constructor
  ·refine int_of_rat (Rat.le_trans c5 ?_); push_cast; exact mc1 t2
  ·refine int_of_rat (Rat.le_trans ?_ c6); push_cast; exact mc2 t1
 have sb : sL ≤ 398000000 ∧ 0 ≤ sH := by
  constructor
  ·refine int_of_rat (Rat.le_trans s5 ?_); push_cast; exact mc3 t4
  ·refine int_of_rat (Rat.le_trans ?_ s6); push_cast; exact mc4 t3
 have Wb := W.2.2.2.2.2 918000005 (by omega) (by omega) (by omega)
 have Rb := R.2.2.2.2.2 398000005 (by omega) (by omega) (by omega)
 obtain ⟨W1, W2, W3, W4, W5, _⟩ := W
 obtain ⟨R1, R2, R3, R4, R5, _⟩ := R
 have W : inU wL ∧ inU wH ∧ wL ≤ wH ∧ wH - wL ≤ (iH - iL) + (cH - cL) + 2 ∧ ∀ p q : Rat, (iL : Rat) ≤ p → p ≤ (iH : Rat) → (cL : Rat) ≤ q → q ≤ (cH : Rat) → 1000000000 * (wL : Rat) ≤ p * q ∧ p * q ≤ 1000000000 * (wH : Rat) := ⟨W1, W2, W3, W4, W5⟩
 have R : inU rL ∧ inU rH ∧ rL ≤ rH ∧ rH - rL ≤ (bH - bL) + (sH - sL) + 2 ∧ ∀ p q : Rat, (bL : Rat) ≤ p → p ≤ (bH : Rat) → (sL : Rat) ≤ q → q ≤ (sH : Rat) → 1000000000 * (rL : Rat) ≤ p * q ∧ p * q ≤ 1000000000 * (rH : Rat) := ⟨R1, R2, R3, R4, R5⟩
 have bx := mk_box g2 f2 A B D E ⟨s1, s2, s3, s4, s5, s6⟩ ⟨c1, c2, c3, c4, c5, c6⟩ I U V W R X (by omega) (by omega)
 have k1 := U.1
 have k2 := U.2.1
 have k3 := V.1
 have k4 := V.2.1
 have k5 := W.1
 have k6 := W.2.1
 have k7 := R.1
 have k8 := R.2.1
 unfold inU at k1 k2 k3 k4 k5 k6 k7 k8
 have ck1 := interval_Check_ev lo hi
 have ck2 := interval_Check_ev la lb
 rw [h1] at ck1
 rw [h2] at ck2
 have run : ∀ (a b e : Int) (r : Int × Int × Int × Int × Int), Ev (fun k => trig_Arc.f k (wL - rH) (wH - rL) xL xH) (a, b, e) → Ev (fun k => Sx.oif ((e != 0) = true) (some (0, 0, 0, 0, e)) (Sx.ob (trig_ArcSin.f k (uL + vL) (uH + vH)) fun t18 => some (a, b, t18.1, t18.2.1, 0))) r → Ev (fun k => sun_Equator.f k lo hi la lb) r := by
  intro a b e r ha hr
  unfold sun_Equator.f
  refine ob_ev ck1 ?_
  refine Ev.congr (fun k => oif_neg (bne0 rfl)) ?_
  refine ob_ev ck2 ?_
  refine Ev.congr (fun k => oif_neg (bne0 rfl)) ?_
  refine Ev.congr (fun k => oif_neg (by rw [decide_eq_true_eq]; omega)) ?_
  refine Ev.congr (fun k => oif_neg (by rw [decide_eq_true_eq]; omega)) ?_
  refine ob_ev es (ob_ev ec (ob_ev e5 (ob_ev e6 (ob_ev e7 (ob_ev e8 (ob_ev u1 (ob_ev u2 (ob_ev u3 ?_))))))))
  refine ob_ev (a := (uL + vL, uH + vH)) (ev_some 0 fun k => by unfold sun_plus.f; dsimp only; rw [w64 (by omega) (by omega), w64 (by omega) (by omega)]) ?_
  refine ob_ev u4 (ob_ev u5 ?_)
  refine ob_ev (a := (wL - rH, wH - rL)) (ev_some 0 fun k => by unfold sun_less.f; dsimp only; rw [w64 (by omega) (by omega), w64 (by omega) (by omega)]) ?_
  exact ob_ev u6 (ob_ev ha hr)
 refine ⟨_, _, _, _, _, _, bx, ?_, ?_⟩
 ·intro e he ha
  exact run 0 0 e _ ha (Ev.congr (fun k => oif_pos (bne1 he)) (ev_some 0 fun k => rfl))
 ·intro a b A B ha hs
  refine run a b 0 _ ha (Ev.congr (fun k => oif_neg (bne0 rfl)) ?_)
  exact ob_ev hs (ev_some 0 fun k => rfl)
theorem eq_core {lo hi la lb : Int} (h1 : sp lo hi = 0) (h2 : sp la lb = 0) (l0 : -125000000 ≤ la) (l1 : lb ≤ 125000000) : ∃ y0 y1 x0 x1 z0 z1, EqBox y0 y1 x0 x1 z0 z1 lo hi la lb ∧
  ((y0 ≤ 0 ∧ 0 ≤ y1 ∧ x0 ≤ 0 ∧ 0 ≤ x1) → Ev (fun k => sun_Equator.f k lo hi la lb) (0, 0, 0, 0, 11)) ∧
  (¬ (y0 ≤ 0 ∧ 0 ≤ y1 ∧ x0 ≤ 0 ∧ 0 ≤ x1) → ∃ a b c d p q A B, At a y0 x0 ∧ At b y0 x1 ∧ At c y1 x0 ∧ At d y1 x1 ∧ Go.Proofs.Ytmahlfjnejbcnaa.ArcT.Ends a b c d p q ∧ (a - 500000000 ≤ b ∧ b < a + 500000000) ∧ (a - 500000000 ≤ c ∧ c < a + 500000000) ∧ (a - 500000000 ≤ d ∧ d < a + 500000000) ∧
   Arcs2 A B (cp z0) (cp z1) ∧ (q - p > 400000000 → Ev (fun k => sun_Equator.f k lo hi la lb) (0, 0, 0, 0, 11)) ∧ (q - p ≤ 400000000 → Ev (fun k => sun_Equator.f k lo hi la lb) (p % 1000000000, q - p / 1000000000 * 1000000000, A, B, 0))) := by
 obtain ⟨y0, y1, x0, x1, z0, z1, bx, f, g⟩ := equator_ev h1 h2 l0 l1
 have by0 := bx.y
 have bx0 := bx.x
 have bz0 := bx.z
 have sy : sp y0 y1 = 0 := sp_zero' (by omega) (by omega) (by omega)
 have sx : sp x0 x1 = 0 := sp_zero' (by omega) (by omega) (by omega)
 have sz : sp z0 z1 = 0 := sp_zero' (by omega) (by omega) (by omega)
 refine ⟨y0, y1, x0, x1, z0, z1, bx, fun hz => f 11 (by decide) (arc_open sy sx hz), fun hz => ?_⟩
 obtain ⟨a, b, c, d, p, q, A1, A2, A3, A4, E, _, _, b1, c1, d1, _, ev⟩ := arc_ev sy sx hz
 obtain ⟨A, B, es, hs⟩ := arcsin_ev2 sz
 refine ⟨a, b, c, d, p, q, A, B, A1, A2, A3, A4, E, b1, c1, d1, hs, fun hw => ?_, fun hw => ?_⟩
 ·rw [if_pos hw] at ev
  exact f 11 (by decide) ev
 ·rw [if_neg (by omega)] at ev
  exact g _ _ _ _ ev es
theorem e_bounds (t s : Int) : (-1 ≤ eX t s ∧ eX t s ≤ 1) ∧ (-1 ≤ eY t s ∧ eY t s ≤ 1) ∧ (-1 ≤ eZ t s ∧ eZ t s ≤ 1) := by
 have h := e_norm t s
 generalize eX t s = x at *
 generalize eY t s = y at *
 generalize eZ t s = z at *
 have k1 := Turn.sq_nonneg x
 have k2 := Turn.sq_nonneg y
 have k3 := Turn.sq_nonneg z
 have q : ∀ w : Rat, w * w ≤ 1 → -1 ≤ w ∧ w ≤ 1 := fun w hw => ⟨(NarrowT.le_of_sq (r := 1) (by decide +kernel) (by grind)).2, (NarrowT.le_of_sq (r := 1) (by decide +kernel) (by grind)).1⟩
 exact ⟨q x (by grind), q y (by grind), q z (by grind)⟩
theorem near_sq {p η w : Rat} (h1 : -w ≤ p - η) (h2 : p - η ≤ w) (w0 : 0 ≤ w) (e1 : -1000000001 ≤ η) (e2 : η ≤ 1000000001) : η * η - 2000000002 * w ≤ p * p ∧ p * p ≤ η * η + 2000000002 * w + w * w := by
 have k1 := OctT.abs_mul h1 h2 e1 e2
 have k2 := OctT.abs_mul h1 h2 h1 h2
 have k3 := Turn.sq_nonneg (p - η)
 constructor <;> grind
theorem near_sq2 {η Y : Rat} (h : Nr (η - 1000000000 * Y) (1 / 100000000)) (y0 : -1 ≤ Y) (y1 : Y ≤ 1) : (1000000000000000000 * (Y * Y) - 40 ≤ η * η ∧ η * η ≤ 1000000000000000000 * (Y * Y) + 40) ∧ -1000000001 ≤ η ∧ η ≤ 1000000001 := by
 unfold Nr at h
 have k1 := OctT.abs_mul h.1 h.2 y0 y1
 have k2 := OctT.abs_mul h.1 h.2 h.1 h.2
 refine ⟨⟨?_, ?_⟩, ?_, ?_⟩ <;> grind
theorem norm_rat {P Q E X Y Z ρ D wy wx zm E2 X2 : Rat} (h1 : E2 - 2000000002 * wy ≤ P) (h2 : X2 - 2000000002 * wx ≤ Q) (h3 : P ≤ E2 + 2000000002 * wy + wy * wy) (h4 : Q ≤ X2 + 2000000002 * wx + wx * wx) (e1 : 1000000000000000000 * (Y * Y) - 40 ≤ E2) (e2 : E2 ≤ 1000000000000000000 * (Y * Y) + 40) (e3 : 1000000000000000000 * (X * X) - 40 ≤ X2) (e4 : X2 ≤ 1000000000000000000 * (X * X) + 40)
  (n : X * X + Y * Y + Z * Z = 1) (z : Z * Z ≤ zm * zm) (z0 : 0 ≤ Z * Z) (wD : wy + wx ≤ D) (wy0 : 0 ≤ wy) (wx0 : 0 ≤ wx) (D2 : D ≤ 2000000) (sy : wy * wy ≤ 4000000000000) (sx : wx * wx ≤ 4000000000000) (hρ : ρ * ρ + 2000000002 * D + 100 ≤ 1000000000000000000 * (1 - zm * zm)) : ρ * ρ ≤ P + Q ∧ P + Q ≤ 1010000000 * 1010000000 := by
 constructor <;> grind
theorem norm_of {y0 y1 x0 x1 z0 z1 lo hi la lb : Int} (bx : EqBox y0 y1 x0 x1 z0 z1 lo hi la lb) (hl : lo ≤ hi) (hb : la ≤ lb) {D : Int} {zm ρ : Rat} (hD : (y1 - y0) + (x1 - x0) ≤ D) (D2 : D ≤ 2000000) (zm0 : 0 ≤ zm) (hz : -zm ≤ eZ (lo * 1000000) (la * 1000000) ∧ eZ (lo * 1000000) (la * 1000000) ≤ zm) (hρ : ρ * ρ + 2000000002 * (D : Rat) + 100 ≤ 1000000000000000000 * (1 - zm * zm)) :
  ∀ p q : Int, y0 ≤ p → p ≤ y1 → x0 ≤ q → q ≤ x1 → ρ * ρ ≤ (p : Rat) * p + (q : Rat) * q ∧ (p : Rat) * p + (q : Rat) * q ≤ 1010000000 * 1010000000 := by
 intro p q p0 p1 q0 q1
 obtain ⟨η, ξ, ζ, ⟨n1, n2⟩, ⟨n3, n4⟩, ⟨n5, n6⟩, nY, nX, nZ⟩ := bx.tell (lo * 1000000) (la * 1000000) (by omega) (by omega) (by omega) (by omega)
 obtain ⟨⟨b1, b2⟩, ⟨b3, b4⟩, ⟨b5, b6⟩⟩ := e_bounds (lo * 1000000) (la * 1000000)
 have en := e_norm (lo * 1000000) (la * 1000000)
 obtain ⟨⟨a1, a2⟩, a3, a4⟩ := near_sq2 nY b3 b4
 obtain ⟨⟨c1, c2⟩, c3, c4⟩ := near_sq2 nX b1 b2
 have w1 := cle (show 0 ≤ y1 - y0 by omega)
 have w2 := cle (show 0 ≤ x1 - x0 by omega)
 have w3 := cle hD
 have w4 := cle D2
 have v1 := cle p0
 have v2 := cle p1
 have v3 := cle q0
 have v4 := cle q1
 push_cast at w1 w2 w3 w4
 have zz := OctT.abs_mul hz.1 hz.2 hz.1 hz.2
 have z0' := Turn.sq_nonneg (eZ (lo * 1000000) (la * 1000000))
 generalize eX (lo * 1000000) (la * 1000000) = X at *
 generalize eY (lo * 1000000) (la * 1000000) = Y at *
 generalize eZ (lo * 1000000) (la * 1000000) = Z at *
 clear bx nY nX nZ
 have s1 := near_sq (p := (p : Rat)) (η := η) (w := (y1 : Rat) - (y0 : Rat)) (by grind) (by grind) (by grind) a3 a4
 have s2 := near_sq (p := (q : Rat)) (η := ξ) (w := (x1 : Rat) - (x0 : Rat)) (by grind) (by grind) (by grind) c3 c4
 have y2 := OctT.abs_mul (a := (y1 : Rat) - (y0 : Rat)) (b := (y1 : Rat) - (y0 : Rat)) (A := 2000000) (B := 2000000) (by grind) (by grind) (by grind) (by grind)
 have x2 := OctT.abs_mul (a := (x1 : Rat) - (x0 : Rat)) (b := (x1 : Rat) - (x0 : Rat)) (A := 2000000) (B := 2000000) (by grind) (by grind) (by grind) (by grind)
 exact norm_rat (E := 0) s1.1 s2.1 s1.2 s2.2 a1 a2 c1 c2 en zz.2 z0' w3 (by grind) (by grind) w4 (by grind) (by grind) hρ
end Go.Proofs.Ytmahlfjnejbcnaa.EqT
