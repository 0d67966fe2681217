/- Sin: its bounds lie about the rotation's sine, by almost 1 on each side. -/
import Derived.Test.YtelcegpaakbppaaTrigArcSinsn19
namespace Go.Proofs.Ytelcegpaakbppaa.SinT
open Go.RowKit Go.Proofs.YtelcegpaakbppaaW.PrintWords Go.Proofs.YtelcegpaakbppaaW.PrintLast Go.Proofs.Ytelcegpaakbppaa.Opn Go.Proofs.Ytelcegpaakbppaa.PAll Go.Proofs.Ytelcegpaakbppaa.Base Go.Proofs.Ytelcegpaakbppaa.Turn Go.Proofs.Ytelcegpaakbppaa.Fix Go.Proofs.Ytelcegpaakbppaa.Oct Go.Proofs.Ytelcegpaakbppaa.OctT
set_option linter.unusedVariables false
set_option linter.unusedSimpArgs false
theorem F_mono {y : Rat} (h : 0 ≤ y) (h1 : y ≤ 1) : ∀ i, F y i ≤ F 1 i
  | 0 => Rat.le_refl
  | i + 1 => by
    have hi := F_mono h h1 i
    have a1 := Rat.mul_le_mul_of_nonneg_left h1 (F_nonneg h i)
    have a2 : F y i * y ≤ F 1 i * 1 := by grind
    have a3 := Rat.mul_le_mul_of_nonneg_left a2 (g_pos i)
    show F y i * y * g i ≤ F 1 i * 1 * g i
    grind
theorem taylor20 {n : Nat} (h : s1 * (n : Rat) ≤ 1) (h0 : 0 ≤ s1 * (n : Rat)) : u * (cosT n - cosP (s1 * n) 20) ≤ 1 ∧ -1 ≤ u * (cosT n - cosP (s1 * n) 20) ∧ u * (sinT n - sinP (s1 * n) 20) ≤ 1 ∧ -1 ≤ u * (sinT n - sinP (s1 * n) 20) := by
  obtain ⟨⟨a1, a2⟩, ⟨a3, a4⟩⟩ := T_taylor 20 n h
  have k := F_mono h0 h 20
  have k1 : u * (F 1 20 + s1 * dd 20) ≤ 1 := by decide +kernel
  have hu := u_eq
  generalize F (s1 * (n : Rat)) 20 = F0 at *
  generalize F 1 20 = F1 at *
  generalize s1 * dd 20 = e at *
  generalize cosT n - cosP (s1 * n) 20 = z at *
  generalize sinT n - sinP (s1 * n) 20 = w at *
  have hu0 : 0 ≤ u := by rw [hu]; grind
  have m1 := Rat.mul_le_mul_of_nonneg_left a1 hu0
  have m2 := Rat.mul_le_mul_of_nonneg_left a2 hu0
  have m3 := Rat.mul_le_mul_of_nonneg_left a3 hu0
  have m4 := Rat.mul_le_mul_of_nonneg_left a4 hu0
  have m5 := Rat.mul_le_mul_of_nonneg_left k hu0
  refine ⟨?_, ?_, ?_, ?_⟩ <;> grind
theorem rough {n : Nat} (h : s1 * (n : Rat) ≤ 786 / 1000) (h0 : 0 ≤ s1 * (n : Rat)) : -(1 / 100000000000000000000000) ≤ sinT n ∧ 1 / 2 ≤ cosT n := by
  obtain ⟨⟨a1, a2⟩, ⟨a3, a4⟩⟩ := T_taylor 2 n (by grind)
  have e1 : cosP (s1 * n) 2 = 1 := by
    show 0 + (ca (2 * 0)).1 * 1 + (ca (2 * 0 + 1)).1 * F (s1 * n) 1 = 1
    rw [(ca_two 0).1, (ca_two 0).2, show sgn 0 = 1 from rfl]; grind
  have hg : g 0 = 1 := by have := g_mul 0; grind
  have e2 : sinP (s1 * n) 2 = s1 * n := by
    show 0 + (ca (2 * 0)).2 * 1 + (ca (2 * 0 + 1)).2 * (1 * (s1 * n) * g 0) = s1 * n
    rw [hg, (ca_two 0).1, (ca_two 0).2, show sgn 0 = 1 from rfl]; grind
  have hg1 : g 1 = 1 / 2 := by have := g_mul 1; have hc : ((1 : Nat) : Rat) = 1 := rfl; rw [hc] at this; grind
  have e3 : F (s1 * n) 2 = s1 * n * (s1 * n) * (1 / 2) := by
    show 1 * (s1 * n) * g 0 * (s1 * n) * g 1 = _
    rw [hg, hg1]; grind
  have e4 : s1 * dd 2 ≤ 1 / 100000000000000000000000 := by decide +kernel
  rw [e1, e3] at a1
  rw [e2, e3] at a3
  generalize s1 * (n : Rat) = y at *
  generalize s1 * dd 2 = e at *
  have m1 := Rat.mul_le_mul_of_nonneg_left h h0
  constructor <;> grind
/-- octant tells the sine and the cosine. -/
theorem octant_tells {a : Int} (h0 : 0 ≤ a) (h1 : a ≤ 125000000) : ∃ s c : Int, (∀ f, trig_octant.f (f + 10) a = some (s, c)) ∧ 0 ≤ s ∧ s ≤ 1152921504606847060 ∧ 0 ≤ c ∧ c ≤ 1152921504606846976 ∧
    -84 ≤ (s : Rat) - u * sinT (st a) ∧ (s : Rat) - u * sinT (st a) ≤ 84 ∧ -84 ≤ (c : Rat) - u * cosT (st a) ∧ (c : Rat) - u * cosT (st a) ≤ 84 := by
  obtain ⟨e1, e2⟩ := oSin_err h0 h1 9
  obtain ⟨e3, e4⟩ := oCos_err h0 h1 9
  obtain ⟨y0, y1⟩ := yy_bound h0 h1
  have ty : yy a = s1 * (st a : Rat) := rfl
  rw [ty] at e1 e2 e3 e4 y0 y1
  obtain ⟨t1, t2, t3, t4⟩ := taylor20 (n := st a) (by grind) y0
  obtain ⟨r1, r2⟩ := rough y1 y0
  obtain ⟨_, b2, _, b4⟩ := T_bound (st a)
  have hk : ((9 : Nat) : Rat) = 9 := rfl
  rw [hk] at e1 e2 e3 e4
  rw [show 2 * 9 + 2 = 20 from rfl] at e1 e2 e3 e4
  have hat := octant_at h0 h1
  generalize oSin (oX a) (fm (oX a) (oX a)) 9 = S at *
  generalize oCos (fm (oX a) (oX a)) 9 = C at *
  generalize sinP (s1 * (st a : Rat)) 20 = P at *
  generalize cosP (s1 * (st a : Rat)) 20 = Q at *
  generalize sinT (st a) = x at *
  generalize cosT (st a) = z at *
  have hu := u_eq
  have S1 : (S : Rat) - u * x ≤ 82 := by grind
  have S2 : -82 ≤ (S : Rat) - u * x := by grind
  have C1 : (C : Rat) - u * z ≤ 82 := by grind
  have C2 : -82 ≤ (C : Rat) - u * z := by grind
  clear t1 t2 t3 t4 e1 e2 e3 e4
  rw [hu] at S1 S2 C1 C2 ⊢
  have hS : S ≤ 1152921504606847060 := by
    rcases (show S ≤ 1152921504606847060 ∨ 1152921504606847061 ≤ S by omega) with h | h
    · exact h
    · have := cle h
      push_cast at this
      grind
  have hC0 : 0 ≤ C := by
    have : ((0 : Int) : Rat) ≤ (C : Rat) := by push_cast; grind
    exact_mod_cast this
  have m1 : 0 < S ∧ mx 0 S = S ∨ S ≤ 0 ∧ mx 0 S = 0 := by
    unfold mx
    by_cases c : 0 < S
    · left; exact ⟨c, if_pos c⟩
    · right; exact ⟨by omega, if_neg c⟩
  have m2 : C < 1152921504606846976 ∧ mn 1152921504606846976 C = C ∨ 1152921504606846976 ≤ C ∧ mn 1152921504606846976 C = 1152921504606846976 := by
    unfold mn
    by_cases c : C < 1152921504606846976
    · left; exact ⟨c, if_pos c⟩
    · right; exact ⟨by omega, if_neg c⟩
  refine ⟨mx 0 S, mn 1152921504606846976 C, hat, ?_, ?_, ?_, ?_, ?_, ?_, ?_, ?_⟩
  · rcases m1 with ⟨_, e⟩ | ⟨_, e⟩ <;> rw [e] <;> omega
  · rcases m1 with ⟨_, e⟩ | ⟨_, e⟩ <;> rw [e] <;> omega
  · rcases m2 with ⟨_, e⟩ | ⟨_, e⟩ <;> rw [e] <;> omega
  · rcases m2 with ⟨_, e⟩ | ⟨_, e⟩ <;> rw [e] <;> omega
  · rcases m1 with ⟨_, e⟩ | ⟨h, e⟩ <;> rw [e]
    · grind
    · have := cle h
      push_cast at this ⊢; grind
  · rcases m1 with ⟨_, e⟩ | ⟨h, e⟩ <;> rw [e]
    · grind
    · push_cast; grind
  · rcases m2 with ⟨_, e⟩ | ⟨h, e⟩ <;> rw [e]
    · grind
    · push_cast; grind
  · rcases m2 with ⟨_, e⟩ | ⟨h, e⟩ <;> rw [e]
    · grind
    · have := cle h
      push_cast at this ⊢; grind
theorem q_aux {c s C4 S4 : Rat} (h1 : -(1 / 10000000000000000000000) ≤ C4) (h2 : C4 ≤ 1 / 10000000000000000000000) (h3 : 1 - 1 / 10000000000000000000000000000000000000000 ≤ S4) (h4 : S4 ≤ 1)
    (c1 : -1 ≤ c) (c2 : c ≤ 1) (s1 : -1 ≤ s) (s2 : s ≤ 1) : -(1 / 1000000000000000000000) ≤ s * C4 + c * S4 - c ∧ s * C4 + c * S4 - c ≤ 1 / 1000000000000000000000 := by
  obtain ⟨a1, a2⟩ := abs_mul s1 s2 h1 h2
  obtain ⟨b1, b2⟩ := abs_mul (a := c) (b := 1 - S4) (A := 1) (B := 1 / 10000000000000000000000000000000000000000) c1 c2 (by grind) (by grind)
  constructor <;> grind
/-- A quarter more. -/
theorem quarter (m : Nat) : -(1 / 1000000000000000000000) ≤ sinT (m + n4) - cosT m ∧ sinT (m + n4) - cosT m ≤ 1 / 1000000000000000000000 ∧ -(1 / 1000000000000000000000) ≤ cosT (m + n4) + sinT m ∧ cosT (m + n4) + sinT m ≤ 1 / 1000000000000000000000 := by
  obtain ⟨h1, h2, h3, h4⟩ := T4
  obtain ⟨c1, c2, s1, s2⟩ := T_bound m
  rw [sinT_add, cosT_add]
  generalize cosT n4 = C4 at *
  generalize sinT n4 = S4 at *
  generalize cosT m = c at *
  generalize sinT m = s at *
  obtain ⟨a1, a2⟩ := q_aux h1 h2 h3 h4 c1 c2 s1 s2
  obtain ⟨b1, b2⟩ := q_aux (c := -s) (s := c) h1 h2 h3 h4 (by grind) (by grind) (by grind) (by grind)
  refine ⟨?_, ?_, ?_, ?_⟩ <;> grind
/-- What lacks to a quarter. -/
theorem complement {k m : Nat} (h : k + m = n4) : -(1 / 1000000000000000000000) ≤ sinT k - cosT m ∧ sinT k - cosT m ≤ 1 / 1000000000000000000000 ∧ -(1 / 1000000000000000000000) ≤ cosT k - sinT m ∧ cosT k - sinT m ≤ 1 / 1000000000000000000000 := by
  obtain ⟨h1, h2, h3, h4⟩ := T4
  obtain ⟨c1, c2, s1, s2⟩ := T_bound m
  have e1 := cosT_add k m
  have e2 := sinT_add k m
  have hsq := T_sq m
  rw [h] at e1 e2
  generalize cosT n4 = C4 at *
  generalize sinT n4 = S4 at *
  generalize cosT m = c at *
  generalize sinT m = s at *
  generalize cosT k = ck at *
  generalize sinT k = sk at *
  have f1 : sk = S4 * c - C4 * s := by
    rw [e1, e2]
    have : (sk * c + ck * s) * c - (ck * c - sk * s) * s = sk * (c * c + s * s) := by grind
    rw [this, hsq]; grind
  have f2 : ck = C4 * c + S4 * s := by
    rw [e1, e2]
    have : (ck * c - sk * s) * c + (sk * c + ck * s) * s = ck * (c * c + s * s) := by grind
    rw [this, hsq]; grind
  clear e1 e2 hsq h
  obtain ⟨a1, a2⟩ := q_aux (c := c) (s := -s) h1 h2 h3 h4 (by grind) (by grind) (by grind) (by grind)
  obtain ⟨b1, b2⟩ := q_aux (c := s) (s := c) h1 h2 h3 h4 (by grind) (by grind) (by grind) (by grind)
  refine ⟨?_, ?_, ?_, ?_⟩ <;> grind
end Go.Proofs.Ytelcegpaakbppaa.SinT
