/- SinOver and CosOver: what they tell holds the sines of all arguments of an interval, and is narrow. -/
import Derived.Test.YtmahlfjnejbcnaaTopSeasonsn26
namespace Go.Proofs.Ytmahlfjnejbcnaa.Over
open Go.RowKit YtmahlfjnejbcnaaW.PrintWords YtmahlfjnejbcnaaW.PrintLast Opn PAll Base Turn Fix Oct OctT SinT RefT Circ
set_option linter.unusedVariables false
set_option linter.unusedSimpArgs false
def sp (a b : Int) : Int := if a < -1000000000000000000 ∨ a > 1000000000000000000 ∨ b < -1000000000000000000 ∨ b > 1000000000000000000 then 3 else if b < a then 9 else 0
theorem sp_zero {a b : Int} (h : sp a b = 0) : -1000000000000000000 ≤ a ∧ a ≤ b ∧ b ≤ 1000000000000000000 := by
 unfold sp at h
 split at h
 ·cases h
 ·split at h
  ·cases h
  ·omega
theorem interval_Check_at (k : Nat) (a b : Int) : interval_Check.f (k + 1) a b = some (sp a b) := by
 unfold interval_Check.f interval_out.f sp
 by_cases c1 : a < -1000000000000000000
 ·simp [c1, interval_Check.j0]
 by_cases c2 : a > 1000000000000000000
 ·simp [c1, c2, interval_Check.j0]
 by_cases c3 : b < -1000000000000000000
 ·simp [c1, c2, c3, interval_Check.j0]
 by_cases c4 : b > 1000000000000000000
 ·simp [c1, c2, c3, c4, interval_Check.j0]
 by_cases c5 : b < a
 ·simp [c1, c2, c3, c4, c5, interval_Check.j0]
 ·simp [c1, c2, c3, c4, c5, interval_Check.j0]
theorem interval_Check_ev (a b : Int) : Ev (fun k => interval_Check.f k a b) (sp a b) := ev_some 1 fun k => interval_Check_at k a b
theorem obv_ {α β : Type} {g : Nat → Option α} {f : Nat → α → Option β} {a : α} {r : β} (h : Ev g a) (k : Ev (fun n => f n a) r) : Ev (fun n => Sx.ob (g n) (f n)) r := by
 refine Ev.congr (fun n => Sx.ob_eq _ _) ?_
 exact ev_bind h k
theorem ofn_ {β : Type} {c : Prop} [inst : Decidable c] {A B : Option β} (h : ¬ c) : Sx.oif c A B = B := by rw [Sx.oif_eq, if_neg h]
theorem iw_ (x : Int) : Go.IntKind.i64.wrap x = wrap64 x := i64_w x
theorem S_st (a : Int) : S (a * 1000000) = sinT (st (a % 1000000000)) := by
 unfold S
 rw [show a * 1000000 % 1000000000000000 = a % 1000000000 * 1000000 by omega]
 unfold ag st
 rw [show (a % 1000000000 * 1000000).toNat = (a % 1000000000).toNat * 1000000 by omega, Nat.mul_assoc]
theorem sin_ev {a : Int} (h0 : -1000000000000000000 ≤ a) (h1 : a ≤ 1000000000000000000) : ∃ l h : Int, Ev (fun k => trig_Sin.f k a) (mx (-1000000000) l, mn 1000000000 h, 0) ∧ Box l h (S (a * 1000000)) := by
 obtain ⟨l, h, e, b⟩ := sin_tells h0 h1
 rw [← S_st] at b
 exact ⟨l, h, ev_some 10 e, b⟩
def Box' (l h : Int) (w : Rat) : Prop := h - l = 3 ∧ (l : Rat) ≤ 1000000000 * w - 999998 / 1000000 ∧ 1000000000 * w + 999998 / 1000000 ≤ (h : Rat)
theorem box_less {l h : Int} {w : Rat} (b : Box l h w) : Box' l h w := by
 obtain ⟨b1, b2, b3⟩ := b
 exact ⟨b1, by grind, by grind⟩
theorem cos_ev {a : Int} (h0 : -1000000000000000000 ≤ a) (h1 : a ≤ 1000000000000000000) : ∃ l h : Int, Ev (fun k => trig_Cos.f k a) (mx (-1000000000) l, mn 1000000000 h, 0) ∧ Box' l h (C (a * 1000000)) := by
 obtain ⟨l, h, e, b⟩ := cos_tells h0 h1
 rw [← S_st, show (a + 250000000) * 1000000 = a * 1000000 + 250000000000000 by omega] at b
 refine ⟨l, h, ev_some 10 e, ?_⟩
 obtain ⟨b1, b2, b3⟩ := b
 obtain ⟨⟨q1, q2⟩, _⟩ := quarter_at (a * 1000000)
 generalize S (a * 1000000 + 250000000000000) = x at *
 generalize C (a * 1000000) = y at *
 clear e h0 h1
 exact ⟨b1, by grind, by grind⟩
theorem mxl {a b : Int} : a ≤ mx a b ∧ b ≤ mx a b := by unfold mx; split <;> omega
theorem mnl {a b : Int} : mn a b ≤ a ∧ mn a b ≤ b := by unfold mn; split <;> omega
theorem mx_or (a b : Int) : mx a b = a ∨ mx a b = b := by unfold mx; split <;> simp
theorem mn_or (a b : Int) : mn a b = a ∨ mn a b = b := by unfold mn; split <;> simp
theorem hi_of {l h : Int} {w v : Rat} (b : Box' l h w) (d : v ≤ w + 1 / 100000000000000000) (hv : v ≤ 1) : 1000000000 * v ≤ ((mn 1000000000 h : Int) : Rat) := by
 obtain ⟨b1, b2, b3⟩ := b
 rcases mn_or 1000000000 h with e | e <;> rw [e]
 ·have : ((1000000000 : Int) : Rat) = 1000000000 := rfl
  rw [this]; grind
 ·grind
theorem lo_of {l h : Int} {w v : Rat} (b : Box' l h w) (d : w ≤ v + 1 / 100000000000000000) (hv : -1 ≤ v) : ((mx (-1000000000) l : Int) : Rat) ≤ 1000000000 * v := by
 obtain ⟨b1, b2, b3⟩ := b
 rcases mx_or (-1000000000) l with e | e <;> rw [e]
 ·have : ((-1000000000 : Int) : Rat) = -1000000000 := rfl
  rw [this]; grind
 ·grind
theorem hi_of' {l h : Int} {w v : Rat} (b : Box' l h w) (d : v ≤ w + 1 / 100000000000000000) : mn 1000000000 h = 1000000000 ∨ 1000000000 * v + 99 / 100 ≤ ((mn 1000000000 h : Int) : Rat) := by
 obtain ⟨b1, b2, b3⟩ := b
 rcases mn_or 1000000000 h with e | e
 ·exact Or.inl e
 ·right; rw [e]; grind
theorem lo_of' {l h : Int} {w v : Rat} (b : Box' l h w) (d : w ≤ v + 1 / 100000000000000000) : mx (-1000000000) l = -1000000000 ∨ ((mx (-1000000000) l : Int) : Rat) + 99 / 100 ≤ 1000000000 * v := by
 obtain ⟨b1, b2, b3⟩ := b
 rcases mx_or (-1000000000) l with e | e
 ·exact Or.inl e
 ·right; rw [e]; grind
theorem passes_at {lo hi p : Int} (h0 : -1000000010000000000 ≤ lo) (h1 : hi ≤ 1000000010000000000) (h2 : lo ≤ hi) (p0 : 0 ≤ p) (p1 : p ≤ 1000000000) : trig_passes.f lo hi p = some (decide ((hi - p) / 1000000000 * 1000000000 ≥ lo - p)) := by
 unfold trig_passes.f
 rw [w64 (x := hi - p) (by omega) (by omega), floor_pos (by omega) (by omega), Option.bind_some, w64 (x := (hi - p) / 1000000000 * 1000000000) (by omega) (by omega), w64 (x := lo - p) (by omega) (by omega)]
structure Holds (L H lo hi : Int) : Prop where
 lo1 : -1000000000 ≤ L
 hi1 : H ≤ 1000000000
 tell : ∀ t, lo * 1000000 ≤ t → t ≤ hi * 1000000 → (L : Rat) ≤ 1000000000 * S t ∧ 1000000000 * S t ≤ (H : Rat)
 wide : hi - lo ≤ 1000000000 → H - L ≤ 3 + 7 * (hi - lo)
 marg : ∀ t, lo * 1000000 ≤ t → t ≤ hi * 1000000 → (L = -1000000000 ∨ (L : Rat) + 99 / 100 ≤ 1000000000 * S t) ∧ (H = 1000000000 ∨ 1000000000 * S t + 99 / 100 ≤ (H : Rat))
theorem wid_int {H L d : Int} (h : (H : Rat) - (L : Rat) < 7 * (d : Rat) + 4) : H - L ≤ 3 + 7 * d := by
 rcases Int.lt_or_le (3 + 7 * d) (H - L) with c | c
 ·have := cle (show 7 * d + 4 ≤ H - L by omega)
  push_cast at this
  grind
 ·exact c
theorem kap_ang (d : Int) : 1000000000 * (kap * ((d * 1000000 : Int) : Rat)) ≤ 62832 / 10000 * (d : Rat) ∨ d < 0 := by
 rcases Int.lt_or_le d 0 with c | c
 ·right; exact c
 ·left
  have := cle (a := 0) c
  push_cast
  unfold kap
  have h0 : ((0 : Int) : Rat) = 0 := rfl
  rw [h0] at this
  grind
theorem one_cast : ((1000000000 : Int) : Rat) = 1000000000 := rfl
theorem mone_cast : ((-1000000000 : Int) : Rat) = -1000000000 := rfl
theorem box_hi_le {l h : Int} {w : Rat} (b : Box' l h w) : (h : Rat) ≤ 1000000000 * w + 2000002 / 1000000 := by
 obtain ⟨b1, b2, b3⟩ := b
 have e : h = l + 3 := by omega
 rw [e]; push_cast
 grind
theorem box_lo_ge {l h : Int} {w : Rat} (b : Box' l h w) : 1000000000 * w - 2000002 / 1000000 ≤ (l : Rat) := by
 obtain ⟨b1, b2, b3⟩ := b
 have e : h = l + 3 := by omega
 rw [e] at b3; push_cast at b3
 grind
theorem wid_both {l h l' h' d : Int} {w w' K : Rat} (b : Box' l h w) (b' : Box' l' h' w') (hd : 1 ≤ d) (hk : 1000000000 * K ≤ 62832 / 10000 * (d : Rat)) (hw : w - w' ≤ K + 1 / 10000000000000000) : (h : Rat) - (l' : Rat) < 7 * (d : Rat) + 4 := by
 have a1 := box_hi_le b
 have a2 := box_lo_ge b'
 have := cle hd
 push_cast at this
 grind
theorem wid_one {l h d : Int} {w K : Rat} (b : Box' l h w) (hd : 0 ≤ d) (hk : 1000000000 * K ≤ 62832 / 10000 * (d : Rat)) : (1 - w ≤ K + 1 / 10000000000000000 → 1000000000 - (l : Rat) < 7 * (d : Rat) + 4) ∧ (1 + w ≤ K + 1 / 10000000000000000 → (h : Rat) + 1000000000 < 7 * (d : Rat) + 4) := by
 have a1 := box_hi_le b
 have a2 := box_lo_ge b
 have := cle hd
 have h0 : ((0 : Int) : Rat) = 0 := rfl
 rw [h0] at this
 constructor
 ·intro hw; grind
 ·intro hw; grind
theorem nr_of {w w' K : Rat} (h : Nr (w' - w) (K + 1 / 10000000000000000000)) : w - w' ≤ K + 1 / 10000000000000000 ∧ w' - w ≤ K + 1 / 10000000000000000 := by
 unfold Nr at h
 obtain ⟨h1, h2⟩ := h
 constructor <;> grind
theorem wid_all {l h l' h' d : Int} {w w' K : Rat} (b : Box' l h w) (b' : Box' l' h' w') (hd : 0 ≤ d) (hk : 1000000000 * K ≤ 62832 / 10000 * (d : Rat)) (hl : Nr (w' - w) (K + 1 / 10000000000000000000)) (same : d = 0 → l = l' ∧ h = h') : mx h h' - mn l l' ≤ 3 + 7 * d := by
 have h31 := b.1
 have h32 := b'.1
 by_cases c : d = 0
 ·obtain ⟨z1, z2⟩ := same c
  subst z1; subst z2
  have y1 : mx h h = h := by rcases mx_or h h with z | z <;> exact z
  have y2 : mn l l = l := by rcases mn_or l l with z | z <;> exact z
  rw [y1, y2]; omega
 ·obtain ⟨n1, n2⟩ := nr_of hl
  have k1 := wid_int (wid_both b b' (show 1 ≤ d by omega) hk n1)
  have k2 := wid_int (wid_both b' b (show 1 ≤ d by omega) hk n2)
  clear hk hl n1 n2 same b b'
  rcases mx_or h h' with z | z <;> rcases mn_or l l' with y | y <;> rw [z, y] <;> omega
theorem wid_top {l h l' h' d : Int} {w w' K : Rat} (b : Box' l h w) (b' : Box' l' h' w') (hd : 0 ≤ d) (hk : 1000000000 * K ≤ 62832 / 10000 * (d : Rat)) (n1 : 1 - w ≤ K + 1 / 100000000000000000) (n2 : 1 - w' ≤ K + 1 / 100000000000000000) : 1000000000 - mn l l' ≤ 3 + 7 * d := by
 have k1 := (wid_one b hd hk).1 (by grind)
 have k2 := (wid_one b' hd hk).1 (by grind)
 have k1 : 1000000000 - l ≤ 3 + 7 * d := wid_int (by rw [one_cast]; exact k1)
 have k2 : 1000000000 - l' ≤ 3 + 7 * d := wid_int (by rw [one_cast]; exact k2)
 clear hk n1 n2 b b'
 rcases mn_or l l' with y | y <;> rw [y] <;> omega
theorem wid_bot {l h l' h' d : Int} {w w' K : Rat} (b : Box' l h w) (b' : Box' l' h' w') (hd : 0 ≤ d) (hk : 1000000000 * K ≤ 62832 / 10000 * (d : Rat)) (n1 : 1 + w ≤ K + 1 / 100000000000000000) (n2 : 1 + w' ≤ K + 1 / 100000000000000000) : mx h h' + 1000000000 ≤ 3 + 7 * d := by
 have k1 := (wid_one b hd hk).2 (by grind)
 have k2 := (wid_one b' hd hk).2 (by grind)
 have k1 : h - (-1000000000) ≤ 3 + 7 * d := wid_int (by rw [mone_cast]; grind)
 have k2 : h' - (-1000000000) ≤ 3 + 7 * d := wid_int (by rw [mone_cast]; grind)
 clear hk n1 n2 b b'
 rcases mx_or h h' with y | y <;> rw [y] <;> omega
theorem clamp_all (l h l' h' : Int) : mx (mn 1000000000 h) (mn 1000000000 h') ≤ mx h h' ∧ mn l l' ≤ mn (mx (-1000000000) l) (mx (-1000000000) l') ∧ mx (mn 1000000000 h) (mn 1000000000 h') ≤ 1000000000 ∧ -1000000000 ≤ mn (mx (-1000000000) l) (mx (-1000000000) l') := by
 unfold mx mn
 refine ⟨?_, ?_, ?_, ?_⟩ <;> (repeat' split) <;> omega
theorem top_all {lo hi l h l' h' : Int} (B : Box' l h (S (lo * 1000000))) (B' : Box' l' h' (S (hi * 1000000))) (hn : ¬ ((hi - 250000000) / 1000000000 * 1000000000 ≥ lo - 250000000)) (t : Int) (t0 : lo * 1000000 ≤ t) (t1 : t ≤ hi * 1000000) : 1000000000 * S t ≤ ((mx (mn 1000000000 h) (mn 1000000000 h') : Int) : Rat) := by
 have q1 := cle (mxl (a := mn 1000000000 h) (b := mn 1000000000 h')).1
 have q2 := cle (mxl (a := mn 1000000000 h) (b := mn 1000000000 h')).2
 rcases over_hi (k := (hi - 250000000) / 1000000000) t0 t1 (by omega) (by omega) with o | o
 ·exact Rat.le_trans (hi_of B o (SC_bound t).2.2.2) q1
 ·exact Rat.le_trans (hi_of B' o (SC_bound t).2.2.2) q2
theorem bot_all {lo hi l h l' h' : Int} (B : Box' l h (S (lo * 1000000))) (B' : Box' l' h' (S (hi * 1000000))) (hn : ¬ ((hi - 750000000) / 1000000000 * 1000000000 ≥ lo - 750000000)) (t : Int) (t0 : lo * 1000000 ≤ t) (t1 : t ≤ hi * 1000000) : ((mn (mx (-1000000000) l) (mx (-1000000000) l') : Int) : Rat) ≤ 1000000000 * S t := by
 have q1 := cle (mnl (a := mx (-1000000000) l) (b := mx (-1000000000) l')).1
 have q2 := cle (mnl (a := mx (-1000000000) l) (b := mx (-1000000000) l')).2
 rcases over_lo (k := (hi - 750000000) / 1000000000) t0 t1 (by omega) (by omega) with o | o
 ·exact Rat.le_trans q1 (lo_of B o (SC_bound t).2.2.1)
 ·exact Rat.le_trans q2 (lo_of B' o (SC_bound t).2.2.1)
theorem mxr {a b c : Int} {x : Rat} (h1 : a ≤ c) (h2 : b ≤ c) (h : (a = c ∨ x ≤ (a : Rat)) ∨ (b = c ∨ x ≤ (b : Rat))) : mx a b = c ∨ x ≤ ((mx a b : Int) : Rat) := by
 have q1 := mxl (a := a) (b := b)
 rcases h with (h | h) | (h | h)
 ·left; rcases mx_or a b with e | e <;> omega
 ·right; exact Rat.le_trans h (cle q1.1)
 ·left; rcases mx_or a b with e | e <;> omega
 ·right; exact Rat.le_trans h (cle q1.2)
theorem mnr {a b c : Int} {x : Rat} (h1 : c ≤ a) (h2 : c ≤ b) (h : (a = c ∨ (a : Rat) + 99 / 100 ≤ x) ∨ (b = c ∨ (b : Rat) + 99 / 100 ≤ x)) : mn a b = c ∨ ((mn a b : Int) : Rat) + 99 / 100 ≤ x := by
 have q1 := mnl (a := a) (b := b)
 have k1 := cle q1.1
 have k2 := cle q1.2
 rcases h with (h | h) | (h | h)
 ·left; rcases mn_or a b with e | e <;> omega
 ·right; grind
 ·left; rcases mn_or a b with e | e <;> omega
 ·right; grind
theorem top_all' {lo hi l h l' h' : Int} (B : Box' l h (S (lo * 1000000))) (B' : Box' l' h' (S (hi * 1000000))) (hn : ¬ ((hi - 250000000) / 1000000000 * 1000000000 ≥ lo - 250000000)) (t : Int) (t0 : lo * 1000000 ≤ t) (t1 : t ≤ hi * 1000000) : mx (mn 1000000000 h) (mn 1000000000 h') = 1000000000 ∨ 1000000000 * S t + 99 / 100 ≤ ((mx (mn 1000000000 h) (mn 1000000000 h') : Int) : Rat) := by
 refine mxr mnl.1 mnl.1 ?_
 rcases over_hi (k := (hi - 250000000) / 1000000000) t0 t1 (by omega) (by omega) with o | o
 ·exact Or.inl (hi_of' B o)
 ·exact Or.inr (hi_of' B' o)
theorem bot_all' {lo hi l h l' h' : Int} (B : Box' l h (S (lo * 1000000))) (B' : Box' l' h' (S (hi * 1000000))) (hn : ¬ ((hi - 750000000) / 1000000000 * 1000000000 ≥ lo - 750000000)) (t : Int) (t0 : lo * 1000000 ≤ t) (t1 : t ≤ hi * 1000000) : mn (mx (-1000000000) l) (mx (-1000000000) l') = -1000000000 ∨ ((mn (mx (-1000000000) l) (mx (-1000000000) l') : Int) : Rat) + 99 / 100 ≤ 1000000000 * S t := by
 refine mnr mxl.1 mxl.1 ?_
 rcases over_lo (k := (hi - 750000000) / 1000000000) t0 t1 (by omega) (by omega) with o | o
 ·exact Or.inl (lo_of' B o)
 ·exact Or.inr (lo_of' B' o)
theorem one_all (t : Int) : 1000000000 * S t ≤ ((1000000000 : Int) : Rat) ∧ ((-1000000000 : Int) : Rat) ≤ 1000000000 * S t := by
 obtain ⟨_, _, h1, h2⟩ := SC_bound t
 rw [one_cast, mone_cast]
 generalize S t = x at *
 constructor <;> grind
theorem over_run {lo hi : Int} {x y : Int × Int × Int} {p1 p2 : Bool} (hc : Ev (fun k => interval_Check.f k lo hi) 0) (e : Ev (fun k => trig_Sin.f k lo) x) (e' : Ev (fun k => trig_Sin.f k hi) y) (P1 : trig_passes.f lo hi 250000000 = some p1) (P2 : trig_passes.f lo hi 750000000 = some p2) :
  Ev (fun k => trig_SinOver.f k lo hi) (if p2 then -1000000000 else mn x.1 y.1, if p1 then 1000000000 else mx x.2.1 y.2.1, 0) := by
 unfold trig_SinOver.f
 refine obv_ hc ?_
 refine Ev.congr (fun k => ofn_ (by simp)) ?_
 refine obv_ e (obv_ e' (ev_some 0 fun k => ?_))
 rw [P1, P2]
 cases p1 <;> cases p2 <;> rfl
theorem sp_zero' {a b : Int} (h0 : -1000000000000000000 ≤ a) (h1 : a ≤ b) (h2 : b ≤ 1000000000000000000) : sp a b = 0 := by unfold sp; rw [if_neg (by omega), if_neg (by omega)]
theorem ends_of (lo hi : Int) : Nr (S (hi * 1000000) - S (lo * 1000000)) (kap * (((hi - lo) * 1000000 : Int) : Rat) + 1 / 10000000000000000000) ∨ hi < lo := by
 rcases Int.lt_or_le hi lo with c | c
 ·right; exact c
 ·left
  have LIP := S_lip (a := lo * 1000000) (b := hi * 1000000) (by omega)
  rwa [show hi * 1000000 - lo * 1000000 = (hi - lo) * 1000000 by omega] at LIP
theorem over_ev {lo hi : Int} (h0 : -1000000000000000000 ≤ lo) (h1 : lo ≤ hi) (h2 : hi ≤ 1000000000000000000) : ∃ L H, Ev (fun k => trig_SinOver.f k lo hi) (L, H, 0) ∧ Holds L H lo hi := by
 obtain ⟨l, h, e, b⟩ := sin_ev h0 (show lo ≤ 1000000000000000000 by omega)
 have X : ∃ l' h' : Int, Ev (fun k => trig_Sin.f k hi) (mx (-1000000000) l', mn 1000000000 h', 0) ∧ Box l' h' (S (hi * 1000000)) ∧ (hi - lo = 0 → l = l' ∧ h = h') := by
  by_cases c : hi = lo
  ·rw [c]
   exact ⟨l, h, e, b, fun _ => ⟨rfl, rfl⟩⟩
  ·obtain ⟨l', h', e', b'⟩ := sin_ev (show -1000000000000000000 ≤ hi by omega) h2
   exact ⟨l', h', e', b', fun h => absurd h (by omega)⟩
 obtain ⟨l', h', e', b', same⟩ := X
 have hc := interval_Check_ev lo hi
 rw [sp_zero' h0 h1 h2] at hc
 have P1 := passes_at (lo := lo) (hi := hi) (p := 250000000) (by omega) (by omega) h1 (by omega) (by omega)
 have P2 := passes_at (lo := lo) (hi := hi) (p := 750000000) (by omega) (by omega) h1 (by omega) (by omega)
 have R := over_run hc e e' P1 P2
 clear P1 P2 hc e e'
 have d0 : 0 ≤ hi - lo := by omega
 have hk : 1000000000 * (kap * (((hi - lo) * 1000000 : Int) : Rat)) ≤ 62832 / 10000 * ((hi - lo : Int) : Rat) := (kap_ang (hi - lo)).resolve_right (by omega)
 have B := box_less b
 have B' := box_less b'
 have W1 := wid_all B B' d0 hk ((ends_of lo hi).resolve_right (by omega)) same
 have NT := fun (hp : (hi - 250000000) / 1000000000 * 1000000000 ≥ lo - 250000000) => wid_top B B' d0 hk (near_top (t := lo * 1000000) (k := (hi - 250000000) / 1000000000) ((hi - lo) * 1000000) (by omega) (by omega) (by omega)) (near_top (t := hi * 1000000) (k := (hi - 250000000) / 1000000000) ((hi - lo) * 1000000) (by omega) (by omega) (by omega))
 have NB := fun (hp : (hi - 750000000) / 1000000000 * 1000000000 ≥ lo - 750000000) => wid_bot B B' d0 hk (near_bottom (t := lo * 1000000) (k := (hi - 750000000) / 1000000000) ((hi - lo) * 1000000) (by omega) (by omega) (by omega)) (near_bottom (t := hi * 1000000) (k := (hi - 750000000) / 1000000000) ((hi - lo) * 1000000) (by omega) (by omega) (by omega))
 obtain ⟨HL, LL, i1, i2⟩ := clamp_all l h l' h'
 have T1 := top_all B B'
 have T2 := bot_all B B'
 have T1' := top_all' B B'
 have T2' := bot_all' B B'
 clear hk b b' B B' same
 refine ⟨_, _, R, ?_⟩
 by_cases c1 : (hi - 250000000) / 1000000000 * 1000000000 ≥ lo - 250000000
 ·rw [decide_eq_true c1]
  by_cases c2 : (hi - 750000000) / 1000000000 * 1000000000 ≥ lo - 750000000
  ·rw [decide_eq_true c2]
   refine ⟨Int.le_refl (-1000000000), Int.le_refl 1000000000, fun t t0 t1 => ⟨(one_all t).2, (one_all t).1⟩, fun _ => ?_, fun t t0 t1 => ⟨Or.inl rfl, Or.inl rfl⟩⟩
   show (1000000000 : Int) - -1000000000 ≤ _
   clear R T1 T2 T1' T2' W1 NT NB
   omega
  ·rw [decide_eq_false c2]
   refine ⟨i2, Int.le_refl 1000000000, fun t t0 t1 => ⟨T2 c2 t t0 t1, (one_all t).1⟩, fun _ => ?_, fun t t0 t1 => ⟨T2' c2 t t0 t1, Or.inl rfl⟩⟩
   have := NT c1
   show (1000000000 : Int) - mn (mx (-1000000000) l) (mx (-1000000000) l') ≤ _
   clear R T1 T2 T1' T2' W1 NT NB c1 c2
   omega
 ·rw [decide_eq_false c1]
  by_cases c2 : (hi - 750000000) / 1000000000 * 1000000000 ≥ lo - 750000000
  ·rw [decide_eq_true c2]
   refine ⟨Int.le_refl (-1000000000), i1, fun t t0 t1 => ⟨(one_all t).2, T1 c1 t t0 t1⟩, fun _ => ?_, fun t t0 t1 => ⟨Or.inl rfl, T1' c1 t t0 t1⟩⟩
   have := NB c2
   show mx (mn 1000000000 h) (mn 1000000000 h') - -1000000000 ≤ _
   clear R T1 T2 T1' T2' W1 NT NB c1 c2
   omega
  ·rw [decide_eq_false c2]
   refine ⟨i2, i1, fun t t0 t1 => ⟨T2 c2 t t0 t1, T1 c1 t t0 t1⟩, fun _ => ?_, fun t t0 t1 => ⟨T2' c2 t t0 t1, T1' c1 t t0 t1⟩⟩
   show mx (mn 1000000000 h) (mn 1000000000 h') - mn (mx (-1000000000) l) (mx (-1000000000) l') ≤ _
   clear R T1 T2 T1' T2' NT NB c1 c2
   omega
structure HoldsC (L H lo hi : Int) : Prop where
 lo1 : -1000000000 ≤ L
 hi1 : H ≤ 1000000000
 tell : ∀ t, lo * 1000000 ≤ t → t ≤ hi * 1000000 → (L : Rat) ≤ 1000000000 * C t + 1 / 1000000000 ∧ 1000000000 * C t ≤ (H : Rat) + 1 / 1000000000
 wide : H - L ≤ 3 + 7 * (hi - lo)
theorem c_of {L H : Int} {s c : Rat} (h : (L : Rat) ≤ 1000000000 * s ∧ 1000000000 * s ≤ (H : Rat)) (q : Nr (s - c) (1 / 10000000000000000000)) : (L : Rat) ≤ 1000000000 * c + 1 / 1000000000 ∧ 1000000000 * c ≤ (H : Rat) + 1 / 1000000000 := by
 unfold Nr at q
 obtain ⟨h1, h2⟩ := h
 constructor <;> grind
theorem mn_le_or (a b : Int) : mn a b = a ∧ a ≤ b ∨ mn a b = b ∧ b ≤ a := by unfold mn; split <;> omega
theorem cosover_ev {lo hi : Int} (h0 : -1000000000000000000 ≤ lo) (h1 : lo ≤ hi) (h2 : hi ≤ 1000000000000000000) : ∃ L H, Ev (fun k => trig_CosOver.f k lo hi) (L, H, 0) ∧ HoldsC L H lo hi := by
 have hc := interval_Check_ev lo hi
 rw [sp_zero' h0 h1 h2] at hc
 have hr := reduced_at (a := lo) (by omega)
 obtain ⟨r, hr0⟩ : ∃ r, r = lo % 1000000000 := ⟨_, rfl⟩
 rw [← hr0] at hr
 have r0 : 0 ≤ r := by omega
 have r1 : r < 1000000000 := by omega
 obtain ⟨m, hm⟩ : ∃ m, lo = r + m * 1000000000 := ⟨lo / 1000000000, by omega⟩
 obtain ⟨hi', e1⟩ : ∃ hi', hi' = mn (hi + (r + 250000000 - lo)) (r + 250000000 + 1000000000) := ⟨_, rfl⟩
 have hb : r + 250000000 ≤ hi' ∧ hi' ≤ hi + (r + 250000000 - lo) ∧ hi' ≤ r + 1250000000 ∧ (hi' = hi + (r + 250000000 - lo) ∨ hi' = r + 1250000000) := by
  rcases mn_le_or (hi + (r + 250000000 - lo)) (r + 250000000 + 1000000000) with ⟨z1, z2⟩ | ⟨z1, z2⟩ <;> omega
 obtain ⟨L, H, e, hd⟩ := over_ev (lo := r + 250000000) (hi := hi') (by omega) (by omega) (by omega)
 refine ⟨L, H, ?_, hd.lo1, hd.hi1, fun t t0 t1 => ?_, ?_⟩
 ·unfold trig_CosOver.f
  refine obv_ hc ?_
  refine Ev.congr (fun k => ofn_ (by simp)) ?_
  refine obv_ (ev_some 0 fun k => hr) ?_
  simp only [iw_]
  rw [w64 (x := r + 250000000) (by omega) (by omega), w64 (x := r + 250000000 - lo) (by omega) (by omega), w64 (x := hi + (r + 250000000 - lo)) (by omega) (by omega), w64 (x := lo + (r + 250000000 - lo)) (by omega) (by omega), show lo + (r + 250000000 - lo) = r + 250000000 by omega, w64 (x := r + 250000000 + 1000000000) (by omega) (by omega), show (if r + 250000000 + 1000000000 < hi + (r + 250000000 - lo) then r + 250000000 + 1000000000 else hi + (r + 250000000 - lo)) = hi' from e1.symm]
  exact obv_ e (ev_some 0 fun k => rfl)
 ·have q := (quarter_at t).1
  by_cases c : t + 250000000000000 - m * 1000000000000000 ≤ hi' * 1000000
  ·have k := hd.tell (t + 250000000000000 - m * 1000000000000000) (by omega) c
   rw [S_per (a := t + 250000000000000 - m * 1000000000000000) (b := t + 250000000000000) (by omega)] at k
   exact c_of k q
  ·have k := hd.tell ((t + 250000000000000 - (r + 250000000) * 1000000) % 1000000000000000 + (r + 250000000) * 1000000) (by omega) (by omega)
   rw [S_per (a := (t + 250000000000000 - (r + 250000000) * 1000000) % 1000000000000000 + (r + 250000000) * 1000000) (b := t + 250000000000000) (by omega)] at k
   exact c_of k q
 ·have := hd.wide (by omega)
  omega
end Go.Proofs.Ytmahlfjnejbcnaa.Over
