/- Sin: its bounds lie about the rotation's sine, by almost 1 on each side. -/
import Derived.Test.YtmahlfjnejbcnaaTopSeasonsn23
namespace Go.Proofs.Ytmahlfjnejbcnaa.SinT
open Go.RowKit YtmahlfjnejbcnaaW.PrintWords YtmahlfjnejbcnaaW.PrintLast Opn PAll Base Turn Fix Oct OctT
set_option linter.unusedVariables false
set_option linter.unusedSimpArgs false
theorem floor_pos {a b : Int} (ha : -9223372036854775808 ≤ a ∧ a ≤ 9223372036854775807) (hb : 0 < b) : interval_Floor.f a b = some (a / b) := by
  have hd := Int.tdiv_eq_ediv (a := a) (b := b)
  have hm := Int.mul_tdiv_add_tmod a b
  have hs : b.sign = 1 := Int.sign_eq_one_of_pos hb
  have h1 : b * (a / b) ≤ a := Int.mul_ediv_self_le (by omega)
  have h2 : a < b * (a / b) + b := Int.lt_mul_ediv_self_add hb
  have h3 : -9223372036854775808 ≤ a / b := by
    rcases ilt_or (a / b) (-9223372036854775808) with h | h
    · have : b * (a / b) ≤ 1 * (a / b) := Int.mul_le_mul_of_nonpos_right (by omega) (by omega)
      have h5 : b * (a / b) + b ≤ a / b + 1 := by
        have : b * (a / b + 1) ≤ 1 * (a / b + 1) := Int.mul_le_mul_of_nonpos_right (by omega) (by omega)
        rw [Int.mul_add, Int.mul_one] at this
        omega
      omega
    · exact h
  have h4 : a / b ≤ 9223372036854775807 := by
    rcases ilt_or 9223372036854775807 (a / b) with h | h
    · have : 1 * (a / b) ≤ b * (a / b) := Int.mul_le_mul_of_nonneg_right (by omega) (by omega)
      omega
    · exact h
  unfold interval_Floor.f
  rw [if_neg (by omega)]
  have hdec : decide (b < 0) = false := decide_eq_false (by omega)
  by_cases c : a.tmod b = 0
  · rw [if_pos c]
    have : b ∣ a := Int.dvd_of_tmod_eq_zero c
    rw [if_pos (Or.inr this)] at hd
    rw [hd, Int.add_zero, w64 h3 h4]
  · rw [if_neg c, hdec]
    have hnd : ¬ b ∣ a := fun h => c (Int.tmod_eq_zero_of_dvd h)
    by_cases c2 : a < 0
    · rw [if_pos (by simp [c2])]
      rw [if_neg (by rintro (h | h) <;> first | omega | exact hnd h), hs] at hd
      rw [hd, w64 (x := a / b + 1) (by omega) ?_, w64 (by omega) (by omega)]
      · congr 1; omega
      · rcases ilt_or 0 (a / b + 1) with h | h
        · have : b * 0 ≤ b * (a / b) := Int.mul_le_mul_of_nonneg_left (by omega) (by omega)
          omega
        · omega
    · rw [if_neg (by simp [c2])]
      rw [if_pos (Or.inl (by omega))] at hd
      rw [hd, Int.add_zero, w64 h3 h4]
theorem F_mono {y : Rat} (h : 0 ≤ y) (h1 : y ≤ 1) : ∀ i, F y i ≤ F 1 i
  | 0 => Rat.le_refl
  | i + 1 => by
    have hi := F_mono h h1 i
    have a1 := Rat.mul_le_mul_of_nonneg_left h1 (F_nonneg h i)
    have a2 : F y i * y ≤ F 1 i * 1 := by grind
    have a3 := Rat.mul_le_mul_of_nonneg_left a2 (g_pos i)
    show F y i * y * g i ≤ F 1 i * 1 * g i
    grind
theorem taylor20 {n : Nat} (h : s1 * (n : Rat) ≤ 1) (h0 : 0 ≤ s1 * (n : Rat)) : u * (cosT n - cosP (s1 * n) 20) ≤ 1 ∧ -1 ≤ u * (cosT n - cosP (s1 * n) 20) ∧ u * (sinT n - sinP (s1 * n) 20) ≤ 1 ∧ -1 ≤ u * (sinT n - sinP (s1 * n) 20) := by
  obtain ⟨⟨a1, a2⟩, ⟨a3, a4⟩⟩ := T_taylor 20 n h
  have k := F_mono h0 h 20
  have k1 : u * (F 1 20 + s1 * dd 20) ≤ 1 := by decide +kernel
  have hu := u_eq
  generalize F (s1 * (n : Rat)) 20 = F0 at *
  generalize F 1 20 = F1 at *
  generalize s1 * dd 20 = e at *
  generalize cosT n - cosP (s1 * n) 20 = z at *
  generalize sinT n - sinP (s1 * n) 20 = w at *
  have hu0 : 0 ≤ u := by rw [hu]; grind
  have m1 := Rat.mul_le_mul_of_nonneg_left a1 hu0
  have m2 := Rat.mul_le_mul_of_nonneg_left a2 hu0
  have m3 := Rat.mul_le_mul_of_nonneg_left a3 hu0
  have m4 := Rat.mul_le_mul_of_nonneg_left a4 hu0
  have m5 := Rat.mul_le_mul_of_nonneg_left k hu0
  refine ⟨?_, ?_, ?_, ?_⟩ <;> grind
theorem rough {n : Nat} (h : s1 * (n : Rat) ≤ 786 / 1000) (h0 : 0 ≤ s1 * (n : Rat)) : -(1 / 100000000000000000000000) ≤ sinT n ∧ 1 / 2 ≤ cosT n := by
  obtain ⟨⟨a1, a2⟩, ⟨a3, a4⟩⟩ := T_taylor 2 n (by grind)
  have e1 : cosP (s1 * n) 2 = 1 := by
    show 0 + (ca (2 * 0)).1 * 1 + (ca (2 * 0 + 1)).1 * F (s1 * n) 1 = 1
    rw [(ca_two 0).1, (ca_two 0).2, show sgn 0 = 1 from rfl]; grind
  have hg : g 0 = 1 := by have := g_mul 0; grind
  have e2 : sinP (s1 * n) 2 = s1 * n := by
    show 0 + (ca (2 * 0)).2 * 1 + (ca (2 * 0 + 1)).2 * (1 * (s1 * n) * g 0) = s1 * n
    rw [hg, (ca_two 0).1, (ca_two 0).2, show sgn 0 = 1 from rfl]; grind
  have hg1 : g 1 = 1 / 2 := by have := g_mul 1; have hc : ((1 : Nat) : Rat) = 1 := rfl; rw [hc] at this; grind
  have e3 : F (s1 * n) 2 = s1 * n * (s1 * n) * (1 / 2) := by
    show 1 * (s1 * n) * g 0 * (s1 * n) * g 1 = _
    rw [hg, hg1]; grind
  have e4 : s1 * dd 2 ≤ 1 / 100000000000000000000000 := by decide +kernel
  rw [e1, e3] at a1
  rw [e2, e3] at a3
  generalize s1 * (n : Rat) = y at *
  generalize s1 * dd 2 = e at *
  have m1 := Rat.mul_le_mul_of_nonneg_left h h0
  constructor <;> grind
theorem octant_tells {a : Int} (h0 : 0 ≤ a) (h1 : a ≤ 125000000) : ∃ s c : Int, (∀ f, trig_octant.f (f + 10) a = some (s, c)) ∧ 0 ≤ s ∧ s ≤ 1152921504606847060 ∧ 0 ≤ c ∧ c ≤ 1152921504606846976 ∧
    -84 ≤ (s : Rat) - u * sinT (st a) ∧ (s : Rat) - u * sinT (st a) ≤ 84 ∧ -84 ≤ (c : Rat) - u * cosT (st a) ∧ (c : Rat) - u * cosT (st a) ≤ 84 := by
  obtain ⟨e1, e2⟩ := oSin_err h0 h1 9
  obtain ⟨e3, e4⟩ := oCos_err h0 h1 9
  obtain ⟨y0, y1⟩ := yy_bound h0 h1
  have ty : yy a = s1 * (st a : Rat) := rfl
  rw [ty] at e1 e2 e3 e4 y0 y1
  obtain ⟨t1, t2, t3, t4⟩ := taylor20 (n := st a) (by grind) y0
  obtain ⟨r1, r2⟩ := rough y1 y0
  obtain ⟨_, b2, _, b4⟩ := T_bound (st a)
  have hk : ((9 : Nat) : Rat) = 9 := rfl
  rw [hk] at e1 e2 e3 e4
  rw [show 2 * 9 + 2 = 20 from rfl] at e1 e2 e3 e4
  have hat := octant_at h0 h1
  generalize oSin (oX a) (fm (oX a) (oX a)) 9 = S at *
  generalize oCos (fm (oX a) (oX a)) 9 = C at *
  generalize sinP (s1 * (st a : Rat)) 20 = P at *
  generalize cosP (s1 * (st a : Rat)) 20 = Q at *
  generalize sinT (st a) = x at *
  generalize cosT (st a) = z at *
  have hu := u_eq
  have S1 : (S : Rat) - u * x ≤ 82 := by grind
  have S2 : -82 ≤ (S : Rat) - u * x := by grind
  have C1 : (C : Rat) - u * z ≤ 82 := by grind
  have C2 : -82 ≤ (C : Rat) - u * z := by grind
  clear t1 t2 t3 t4 e1 e2 e3 e4
  rw [hu] at S1 S2 C1 C2 ⊢
  have hS : S ≤ 1152921504606847060 := by
    rcases (show S ≤ 1152921504606847060 ∨ 1152921504606847061 ≤ S by omega) with h | h
    · exact h
    · have := cle h
      push_cast at this
      grind
  have hC0 : 0 ≤ C := by
    have : ((0 : Int) : Rat) ≤ (C : Rat) := by push_cast; grind
    exact_mod_cast this
  have m1 : 0 < S ∧ mx 0 S = S ∨ S ≤ 0 ∧ mx 0 S = 0 := by
    unfold mx
    by_cases c : 0 < S
    · left; exact ⟨c, if_pos c⟩
    · right; exact ⟨by omega, if_neg c⟩
  have m2 : C < 1152921504606846976 ∧ mn 1152921504606846976 C = C ∨ 1152921504606846976 ≤ C ∧ mn 1152921504606846976 C = 1152921504606846976 := by
    unfold mn
    by_cases c : C < 1152921504606846976
    · left; exact ⟨c, if_pos c⟩
    · right; exact ⟨by omega, if_neg c⟩
  refine ⟨mx 0 S, mn 1152921504606846976 C, hat, ?_, ?_, ?_, ?_, ?_, ?_, ?_, ?_⟩
  · rcases m1 with ⟨_, e⟩ | ⟨_, e⟩ <;> rw [e] <;> omega
  · rcases m1 with ⟨_, e⟩ | ⟨_, e⟩ <;> rw [e] <;> omega
  · rcases m2 with ⟨_, e⟩ | ⟨_, e⟩ <;> rw [e] <;> omega
  · rcases m2 with ⟨_, e⟩ | ⟨_, e⟩ <;> rw [e] <;> omega
  · rcases m1 with ⟨_, e⟩ | ⟨h, e⟩ <;> rw [e]
    · grind
    · have := cle h
      push_cast at this ⊢; grind
  · rcases m1 with ⟨_, e⟩ | ⟨h, e⟩ <;> rw [e]
    · grind
    · push_cast; grind
  · rcases m2 with ⟨_, e⟩ | ⟨h, e⟩ <;> rw [e]
    · grind
    · push_cast; grind
  · rcases m2 with ⟨_, e⟩ | ⟨h, e⟩ <;> rw [e]
    · grind
    · have := cle h
      push_cast at this ⊢; grind
theorem q_aux {c s C4 S4 : Rat} (h1 : -(1 / 10000000000000000000000) ≤ C4) (h2 : C4 ≤ 1 / 10000000000000000000000) (h3 : 1 - 1 / 10000000000000000000000000000000000000000 ≤ S4) (h4 : S4 ≤ 1)
    (c1 : -1 ≤ c) (c2 : c ≤ 1) (s1 : -1 ≤ s) (s2 : s ≤ 1) : -(1 / 1000000000000000000000) ≤ s * C4 + c * S4 - c ∧ s * C4 + c * S4 - c ≤ 1 / 1000000000000000000000 := by
  obtain ⟨a1, a2⟩ := abs_mul s1 s2 h1 h2
  obtain ⟨b1, b2⟩ := abs_mul (a := c) (b := 1 - S4) (A := 1) (B := 1 / 10000000000000000000000000000000000000000) c1 c2 (by grind) (by grind)
  constructor <;> grind
theorem quarter (m : Nat) : -(1 / 1000000000000000000000) ≤ sinT (m + n4) - cosT m ∧ sinT (m + n4) - cosT m ≤ 1 / 1000000000000000000000 ∧ -(1 / 1000000000000000000000) ≤ cosT (m + n4) + sinT m ∧ cosT (m + n4) + sinT m ≤ 1 / 1000000000000000000000 := by
  obtain ⟨h1, h2, h3, h4⟩ := T4
  obtain ⟨c1, c2, s1, s2⟩ := T_bound m
  rw [sinT_add, cosT_add]
  generalize cosT n4 = C4 at *
  generalize sinT n4 = S4 at *
  generalize cosT m = c at *
  generalize sinT m = s at *
  obtain ⟨a1, a2⟩ := q_aux h1 h2 h3 h4 c1 c2 s1 s2
  obtain ⟨b1, b2⟩ := q_aux (c := -s) (s := c) h1 h2 h3 h4 (by grind) (by grind) (by grind) (by grind)
  refine ⟨?_, ?_, ?_, ?_⟩ <;> grind
theorem complement {k m : Nat} (h : k + m = n4) : -(1 / 1000000000000000000000) ≤ sinT k - cosT m ∧ sinT k - cosT m ≤ 1 / 1000000000000000000000 ∧ -(1 / 1000000000000000000000) ≤ cosT k - sinT m ∧ cosT k - sinT m ≤ 1 / 1000000000000000000000 := by
  obtain ⟨h1, h2, h3, h4⟩ := T4
  obtain ⟨c1, c2, s1, s2⟩ := T_bound m
  have e1 := cosT_add k m
  have e2 := sinT_add k m
  have hsq := T_sq m
  rw [h] at e1 e2
  generalize cosT n4 = C4 at *
  generalize sinT n4 = S4 at *
  generalize cosT m = c at *
  generalize sinT m = s at *
  generalize cosT k = ck at *
  generalize sinT k = sk at *
  have f1 : sk = S4 * c - C4 * s := by
    rw [e1, e2]
    have : (sk * c + ck * s) * c - (ck * c - sk * s) * s = sk * (c * c + s * s) := by grind
    rw [this, hsq]; grind
  have f2 : ck = C4 * c + S4 * s := by
    rw [e1, e2]
    have : (ck * c - sk * s) * c + (sk * c + ck * s) * s = ck * (c * c + s * s) := by grind
    rw [this, hsq]; grind
  clear e1 e2 hsq h
  obtain ⟨a1, a2⟩ := q_aux (c := c) (s := -s) h1 h2 h3 h4 (by grind) (by grind) (by grind) (by grind)
  obtain ⟨b1, b2⟩ := q_aux (c := s) (s := c) h1 h2 h3 h4 (by grind) (by grind) (by grind) (by grind)
  refine ⟨?_, ?_, ?_, ?_⟩ <;> grind
theorem n4_val : n4 = 250000000 * 1099511627776000000 := by decide +kernel
theorem st_quarter {r : Int} (h0 : 0 ≤ r) (q : Nat) (m : Int) (hm : 0 ≤ m) (h : r = 250000000 * q + m) : st r = st m + q * n4 := by
  have aux : ∀ K q m : Nat, (250000000 * q + m) * K = m * K + q * (250000000 * K) := by
    intro K q m
    rw [Nat.add_mul, Nat.add_comm (250000000 * q * K), Nat.mul_comm 250000000 q, Nat.mul_assoc]
  unfold st
  rw [n4_val, ← aux]
  congr 1
  omega
theorem rounded_at {v : Int} (h0 : 0 ≤ v) (h1 : v ≤ 1152921504606847060) : trig_rounded.f v = some (mx (-1000000000) (v * 1000000000 / 1152921504606846976 - 1), mn 1000000000 (v * 1000000000 / 1152921504606846976 + 2)) := by
  unfold trig_rounded.f
  rw [low30 h0 (by omega)]
  have e : (v / 1073741824 * 1000000000 + v % 1073741824 * 1000000000 / 1073741824) / 1073741824 = v * 1000000000 / 1152921504606846976 := by omega
  rw [w64 (x := v / 1073741824 * 1000000000) (by omega) (by omega), w64 (x := v % 1073741824 * 1000000000) (by omega) (by omega), w64 (x := v / 1073741824 * 1000000000 + v % 1073741824 * 1000000000 / 1073741824) (by omega) (by omega), e, w64 (x := v * 1000000000 / 1152921504606846976 - 1) (by omega) (by omega), w64 (x := v * 1000000000 / 1152921504606846976 + 2) (by omega) (by omega)]
def Box (l h : Int) (w : Rat) : Prop := h - l = 3 ∧ (l : Rat) ≤ 1000000000 * w - 999999 / 1000000 ∧ 1000000000 * w + 999999 / 1000000 ≤ (h : Rat)
theorem box_of {v : Int} {w : Rat} (h0 : 0 ≤ v) (h1 : v ≤ 1152921504606847060) (e1 : -90 ≤ (v : Rat) - u * w) (e2 : (v : Rat) - u * w ≤ 90) : Box (v * 1000000000 / 1152921504606846976 - 1) (v * 1000000000 / 1152921504606846976 + 2) w := by
  have k1 : (v * 1000000000 / 1152921504606846976) * 1152921504606846976 ≤ v * 1000000000 := by omega
  have k2 : v * 1000000000 < (v * 1000000000 / 1152921504606846976) * 1152921504606846976 + 1152921504606846976 := by omega
  have k1 := cle k1
  have k2 := clt k2
  refine ⟨by omega, ?_, ?_⟩
  · push_cast at k1 k2 ⊢
    generalize ((v * 1000000000 / 1152921504606846976 : Int) : Rat) = n at *
    rw [u_eq] at e1 e2
    grind
  · push_cast at k1 k2 ⊢
    generalize ((v * 1000000000 / 1152921504606846976 : Int) : Rat) = n at *
    rw [u_eq] at e1 e2
    grind
def sj0 : Nat → Int → Int → Int → Option (Int × Int × Int)
 | 0, _, _, _ => none
 | k + 1, x4, x6, x7 => if x4 = 0 then ((trig_rounded.f x6).bind fun bt118 => (some (bt118.1, bt118.2, 0))) else (if x4 = 1 then ((trig_rounded.f x7).bind fun bt120 => (some (bt120.1, bt120.2, 0))) else (if x4 = 2 then ((trig_rounded.f x6).bind fun bt122 => ((trig_minus.f bt122.1 bt122.2).bind fun bt124 => (some (bt124.1, bt124.2, 0)))) else ((trig_rounded.f x7).bind fun bt126 => ((trig_minus.f bt126.1 bt126.2).bind fun bt128 => (some (bt128.1, bt128.2, 0))))))
theorem sin_core {r : Int} (h0 : 0 ≤ r) (h1 : r < 1000000000) : ∃ l h : Int, (∀ f, (if (Int.tmod r 250000000) ≤ 125000000 then ((trig_octant.f (f + 10) (Int.tmod r 250000000)).bind fun bt111 => (sj0 (f + 10) (wrap64 (Int.tdiv r 250000000)) bt111.1 bt111.2)) else ((trig_octant.f (f + 10) (wrap64 (250000000 - (Int.tmod r 250000000)))).bind fun bt113 => (sj0 (f + 10) (wrap64 (Int.tdiv r 250000000)) bt113.2 bt113.1))) = some (mx (-1000000000) l, mn 1000000000 h, 0)) ∧ Box l h (sinT (st r)) := by
  have tm : Int.tmod r 250000000 = r % 250000000 := Int.tmod_eq_emod_of_nonneg h0
  have td : Int.tdiv r 250000000 = r / 250000000 := Int.tdiv_eq_ediv_of_nonneg h0
  rw [tm, td, w64 (x := r / 250000000) (by omega) (by omega), w64 (x := 250000000 - r % 250000000) (by omega) (by omega)]
  have hsc : ∃ s c : Int, (∀ f, (if r % 250000000 ≤ 125000000 then ((trig_octant.f (f + 10) (r % 250000000)).bind fun bt111 => (sj0 (f + 10) (r / 250000000) bt111.1 bt111.2)) else ((trig_octant.f (f + 10) (250000000 - r % 250000000)).bind fun bt113 => (sj0 (f + 10) (r / 250000000) bt113.2 bt113.1))) = sj0 (f + 10) (r / 250000000) s c) ∧
      0 ≤ s ∧ s ≤ 1152921504606847060 ∧ 0 ≤ c ∧ c ≤ 1152921504606847060 ∧ -85 ≤ (s : Rat) - u * sinT (st (r % 250000000)) ∧ (s : Rat) - u * sinT (st (r % 250000000)) ≤ 85 ∧ -85 ≤ (c : Rat) - u * cosT (st (r % 250000000)) ∧ (c : Rat) - u * cosT (st (r % 250000000)) ≤ 85 := by
    by_cases c : r % 250000000 ≤ 125000000
    · obtain ⟨s, cc, hf, a1, a2, a3, a4, a5, a6, a7, a8⟩ := octant_tells (a := r % 250000000) (by omega) c
      exact ⟨s, cc, fun f => by rw [if_pos c, hf, Option.bind_some], a1, a2, a3, by omega, by grind, by grind, by grind, by grind⟩
    · obtain ⟨s, cc, hf, a1, a2, a3, a4, a5, a6, a7, a8⟩ := octant_tells (a := 250000000 - r % 250000000) (by omega) (by omega)
      have hk : st (250000000 - r % 250000000) + st (r % 250000000) = n4 := by
        unfold st
        rw [n4_val, ← Nat.add_mul]
        congr 1
        omega
      obtain ⟨g1, g2, g3, g4⟩ := complement hk
      refine ⟨cc, s, fun f => by rw [if_neg c, hf, Option.bind_some], a3, by omega, a1, a2, ?_, ?_, ?_, ?_⟩
      all_goals
        generalize sinT (st (250000000 - r % 250000000)) = x at *
        generalize cosT (st (250000000 - r % 250000000)) = z at *
        generalize sinT (st (r % 250000000)) = x2 at *
        generalize cosT (st (r % 250000000)) = z2 at *
        rw [u_eq] at *
        grind
  obtain ⟨s, c, hf, a1, a2, a3, a4, a5, a6, a7, a8⟩ := hsc
  have hst : st r = st (r % 250000000) + (r / 250000000).toNat * n4 := st_quarter h0 _ _ (by omega) (by omega)
  generalize hm : st (r % 250000000) = m at *
  obtain ⟨p1, p2, p3, p4⟩ := quarter m
  obtain ⟨p5, p6, p7, p8⟩ := quarter (m + n4)
  obtain ⟨p9, p10, p11, p12⟩ := quarter (m + n4 + n4)
  have hmin : ∀ l h : Int, -3000000000 ≤ l → l ≤ 3000000000 → -3000000000 ≤ h → h ≤ 3000000000 → (wrap64 (-(mn 1000000000 h)), wrap64 (-(mx (-1000000000) l)), (0 : Int)) = (mx (-1000000000) (-h), mn 1000000000 (-l), 0) := by
    intro l h k1 k2 k3 k4
    have e1 : wrap64 (-(mn 1000000000 h)) = mx (-1000000000) (-h) := by unfold mn mx; unfold wrap64; split <;> split <;> omega
    have e2 : wrap64 (-(mx (-1000000000) l)) = mn 1000000000 (-l) := by unfold mn mx; unfold wrap64; split <;> split <;> omega
    rw [e1, e2]
  obtain hq | hq | hq | hq : r / 250000000 = 0 ∨ r / 250000000 = 1 ∨ r / 250000000 = 2 ∨ r / 250000000 = 3 := by omega
  · rw [hq] at hst hf ⊢
    have e : st r = m := by rw [hst]; simp
    rw [e]
    refine ⟨_, _, fun f => ?_, box_of a1 a2 (by grind) (by grind)⟩
    rw [hf, sj0, if_pos rfl, rounded_at a1 a2, Option.bind_some]
  · rw [hq] at hst hf ⊢
    have e : st r = m + n4 := by rw [hst]; show m + 1 * n4 = _; rw [Nat.one_mul]
    rw [e]
    refine ⟨_, _, fun f => ?_, box_of a3 a4 ?_ ?_⟩
    · rw [hf, sj0, if_neg (by decide), if_pos rfl, rounded_at a3 a4, Option.bind_some]
    all_goals
      generalize sinT (m + n4) = x at *
      generalize cosT m = z at *
      rw [u_eq] at *
      grind
  · rw [hq] at hst hf ⊢
    have e : st r = m + n4 + n4 := by rw [hst]; show m + 2 * n4 = _; omega
    rw [e]
    have hb := box_of (v := s) (w := sinT m) a1 a2 (by grind) (by grind)
    obtain ⟨b1, b2, b3⟩ := hb
    refine ⟨-(s * 1000000000 / 1152921504606846976 + 2), -(s * 1000000000 / 1152921504606846976 - 1), fun f => ?_, by omega, ?_, ?_⟩
    · rw [hf, sj0, if_neg (by decide), if_neg (by decide), if_pos rfl, rounded_at a1 a2, Option.bind_some]
      unfold trig_minus.f
      rw [Option.bind_some, ← hmin _ _ (by omega) (by omega) (by omega) (by omega)]
    · have b4 := box_of (v := s) (w := -sinT (m + n4 + n4)) a1 a2 (by
        generalize sinT (m + n4 + n4) = x at *
        generalize cosT (m + n4) = z at *
        generalize sinT m = y at *
        rw [u_eq] at *
        grind) (by
        generalize sinT (m + n4 + n4) = x at *
        generalize cosT (m + n4) = z at *
        generalize sinT m = y at *
        rw [u_eq] at *
        grind)
      have := b4.2.2
      push_cast at this ⊢
      grind
    · have b4 := box_of (v := s) (w := -sinT (m + n4 + n4)) a1 a2 (by
        generalize sinT (m + n4 + n4) = x at *
        generalize cosT (m + n4) = z at *
        generalize sinT m = y at *
        rw [u_eq] at *
        grind) (by
        generalize sinT (m + n4 + n4) = x at *
        generalize cosT (m + n4) = z at *
        generalize sinT m = y at *
        rw [u_eq] at *
        grind)
      have := b4.2.1
      push_cast at this ⊢
      grind
  · rw [hq] at hst hf ⊢
    have e : st r = m + n4 + n4 + n4 := by rw [hst]; show m + 3 * n4 = _; omega
    rw [e]
    have b4 := box_of (v := c) (w := -sinT (m + n4 + n4 + n4)) a3 a4 (by
        generalize sinT (m + n4 + n4 + n4) = x at *
        generalize cosT (m + n4 + n4) = z at *
        generalize sinT (m + n4) = y at *
        generalize cosT m = v at *
        rw [u_eq] at *
        grind) (by
        generalize sinT (m + n4 + n4 + n4) = x at *
        generalize cosT (m + n4 + n4) = z at *
        generalize sinT (m + n4) = y at *
        generalize cosT m = v at *
        rw [u_eq] at *
        grind)
    refine ⟨-(c * 1000000000 / 1152921504606846976 + 2), -(c * 1000000000 / 1152921504606846976 - 1), fun f => ?_, by omega, ?_, ?_⟩
    · rw [hf, sj0, if_neg (by decide), if_neg (by decide), if_neg (by decide), rounded_at a3 a4, Option.bind_some]
      unfold trig_minus.f
      rw [Option.bind_some, ← hmin _ _ (by omega) (by omega) (by omega) (by omega)]
    · have := b4.2.2
      push_cast at this ⊢
      grind
    · have := b4.2.1
      push_cast at this ⊢
      grind
theorem reduced_at {a : Int} (ha : -9223372036854775808 ≤ a ∧ a ≤ 9223372036854775807) : trig_Reduced.f a = some (a % 1000000000) := by
  unfold trig_Reduced.f
  rw [floor_pos ha (by omega), Option.bind_some]
  congr 1
  unfold wrap64
  omega
theorem sin_tells {a : Int} (h0 : -1000000000000000000 ≤ a) (h1 : a ≤ 1000000000000000000) : ∃ l h : Int, (∀ f, trig_Sin.f (f + 10) a = some (mx (-1000000000) l, mn 1000000000 h, 0)) ∧ Box l h (sinT (st (a % 1000000000))) := by
  obtain ⟨l, h, hf, hb⟩ := sin_core (r := a % 1000000000) (by omega) (by omega)
  refine ⟨l, h, fun f => ?_, hb⟩
  unfold trig_Sin.f trig_out.f
  simp only [Sx.ob_eq, Sx.oif_eq, i64_w, decide_eq_true_eq, beq_iff_eq]
  rw [if_neg (by omega), Option.bind_some, if_neg (by simp; omega), reduced_at (by omega), Option.bind_some]
  exact hf f
theorem cos_tells {a : Int} (h0 : -1000000000000000000 ≤ a) (h1 : a ≤ 1000000000000000000) : ∃ l h : Int, (∀ f, trig_Cos.f (f + 10) a = some (mx (-1000000000) l, mn 1000000000 h, 0)) ∧ Box l h (sinT (st ((a + 250000000) % 1000000000))) := by
  obtain ⟨l, h, hf, hb⟩ := sin_tells (a := a % 1000000000 + 250000000) (by omega) (by omega)
  refine ⟨l, h, fun f => ?_, ?_⟩
  · unfold trig_Cos.f trig_out.f
    simp only [Sx.ob_eq, Sx.oif_eq, i64_w]
    rw [if_neg (by omega), Option.bind_some, if_neg (by simp; omega), reduced_at (by omega), Option.bind_some, w64 (by omega) (by omega), hf, Option.bind_some]
  · rwa [show (a % 1000000000 + 250000000) % 1000000000 = (a + 250000000) % 1000000000 by omega] at hb
end Go.Proofs.Ytmahlfjnejbcnaa.SinT
