/- A turn cut into equal steps: exact rational rotations by one small step, and how far Taylor's sums are from them. -/
namespace Go.Proofs.Ytmahlfjnejbcnaa.Turn
set_option linter.unusedVariables false
set_option linter.unusedSimpArgs false
def g (i : Nat) : Rat := 1 / ((i : Rat) + 1)
theorem g_mul (i : Nat) : ((i : Rat) + 1) * g i = 1 := by
 have h : (0 : Rat) ≤ (i : Rat) := by exact_mod_cast Nat.zero_le i
 unfold g
 grind
theorem g_pos (i : Nat) : 0 ≤ g i := by
 have h : (0 : Rat) ≤ (i : Rat) := by exact_mod_cast Nat.zero_le i
 have := g_mul i
 rcases (Rat.le_total : 0 ≤ g i ∨ g i ≤ 0) with h1 | h1
 ·exact h1
 ·have h2 : ((i : Rat) + 1) * g i ≤ ((i : Rat) + 1) * 0 := Rat.mul_le_mul_of_nonneg_left h1 (by grind)
  grind
theorem g_le (i : Nat) : g i ≤ 1 := by
 have h : (0 : Rat) ≤ (i : Rat) := by exact_mod_cast Nat.zero_le i
 have h1 := g_mul i
 have h2 : (i : Rat) * 0 ≤ (i : Rat) * g i := Rat.mul_le_mul_of_nonneg_left (g_pos i) h
 grind
theorem g_half (i : Nat) : g (i + 1) ≤ 1 / 2 := by
 have h : (0 : Rat) ≤ ((i + 1 : Nat) : Rat) - 1 := by
  have : (1 : Rat) ≤ ((i + 1 : Nat) : Rat) := by exact_mod_cast Nat.succ_le_succ (Nat.zero_le i)
  grind
 have h1 := g_mul (i + 1)
 have h2 : (((i + 1 : Nat) : Rat) - 1) * 0 ≤ (((i + 1 : Nat) : Rat) - 1) * g (i + 1) := Rat.mul_le_mul_of_nonneg_left (g_pos (i + 1)) h
 grind
def F (y : Rat) : Nat → Rat
 | 0 => 1
 | i + 1 => F y i * y * g i
theorem F_nonneg {y : Rat} (h : 0 ≤ y) : ∀ i, 0 ≤ F y i
 | 0 => by unfold F; grind
 | i + 1 => by
  unfold F
  exact Rat.mul_nonneg (Rat.mul_nonneg (F_nonneg h i) h) (g_pos i)
theorem mul_le_one {a b : Rat} (h1 : a ≤ 1) (h2 : b ≤ 1) (h3 : 0 ≤ a) (h4 : 0 ≤ b) : a * b ≤ 1 := by
 have := Rat.mul_le_mul_of_nonneg_left h2 h3
 grind
theorem F_le {y : Rat} (h : 0 ≤ y) (h1 : y ≤ 1) : ∀ i, F y i ≤ 1
 | 0 => by unfold F; grind
 | i + 1 => by
  unfold F
  exact mul_le_one (mul_le_one (F_le h h1 i) h1 (F_nonneg h i) h) (g_le i) (Rat.mul_nonneg (F_nonneg h i) h) (g_pos i)
theorem F_step {y h : Rat} (hy : 0 ≤ y) (hh : 0 ≤ h) (h1 : y + h ≤ 1) : ∀ i, 0 ≤ F (y + h) (i + 1) - F y (i + 1) - h * F y i ∧ F (y + h) (i + 1) - F y (i + 1) - h * F y i ≤ h * h
 | 0 => by
  have hg : g 0 = 1 := by have := g_mul 0; grind
  have hs : 0 ≤ h * h := Rat.mul_nonneg hh hh
  simp only [F, hg]
  constructor <;> grind
 | i + 1 => by
  obtain ⟨i1, i2⟩ := F_step hy hh h1 i
  have e1 : F (y + h) (i + 2) = F (y + h) (i + 1) * (y + h) * g (i + 1) := rfl
  have e2 : F y (i + 2) = F y (i + 1) * y * g (i + 1) := rfl
  have e3 : F y (i + 1) = F y i * y * g i := rfl
  have hgm := g_mul (i + 1)
  have hgm0 := g_mul i
  have hc : ((i + 1 : Nat) : Rat) = (i : Rat) + 1 := by push_cast; rfl
  have hfi := F_nonneg hy i
  have hfl := F_le hy (by grind) i
  have hgp := g_pos (i + 1)
  have hgh := g_half i
  generalize hd : F (y + h) (i + 1) - F y (i + 1) - h * F y i = d at i1 i2
  have hx : F y i * y = ((i : Rat) + 1) * F y (i + 1) := by rw [e3]; grind
  have key : F (y + h) (i + 2) - F y (i + 2) - h * F y (i + 1) = (h * h * F y i + d * (y + h)) * g (i + 1) := by
   have ha : F (y + h) (i + 1) = F y (i + 1) + h * F y i + d := by grind
   rw [e1, e2, ha]
   rw [hc] at hgm
   grind
  have hs : 0 ≤ h * h := Rat.mul_nonneg hh hh
  have k1 : 0 ≤ h * h * F y i := Rat.mul_nonneg hs hfi
  have k2 : h * h * F y i ≤ h * h * 1 := Rat.mul_le_mul_of_nonneg_left hfl hs
  have k3 : 0 ≤ d * (y + h) := Rat.mul_nonneg i1 (by grind)
  have k4 : d * (y + h) ≤ d * 1 := Rat.mul_le_mul_of_nonneg_left h1 i1
  have k5 : 0 ≤ (h * h * F y i + d * (y + h)) * g (i + 1) := Rat.mul_nonneg (by grind) hgp
  have k6 : (h * h * F y i + d * (y + h)) * g (i + 1) ≤ (h * h * F y i + d * (y + h)) * (1 / 2) := Rat.mul_le_mul_of_nonneg_left hgh (by grind)
  rw [key]
  constructor <;> grind
def ca : Nat → Rat × Rat
 | 0 => (1, 0)
 | i + 1 => (-(ca i).2, (ca i).1)
theorem ca_bound : ∀ i, -1 ≤ (ca i).1 ∧ (ca i).1 ≤ 1 ∧ -1 ≤ (ca i).2 ∧ (ca i).2 ≤ 1
 | 0 => by simp only [ca]; grind
 | i + 1 => by
  obtain ⟨h1, h2, h3, h4⟩ := ca_bound i
  simp only [ca]
  grind
def cosP (y : Rat) : Nat → Rat
 | 0 => 0
 | p + 1 => cosP y p + (ca p).1 * F y p
def sinP (y : Rat) : Nat → Rat
 | 0 => 0
 | p + 1 => sinP y p + (ca p).2 * F y p
theorem mul_bound {a d e : Rat} (h1 : -1 ≤ a) (h2 : a ≤ 1) (h3 : 0 ≤ d) (h4 : d ≤ e) : -e ≤ a * d ∧ a * d ≤ e := by
 have k1 := Rat.mul_le_mul_of_nonneg_left h2 h3
 have k2 := Rat.mul_le_mul_of_nonneg_left h1 h3
 grind
theorem sinP_step {y h : Rat} (hy : 0 ≤ y) (hh : 0 ≤ h) (h1 : y + h ≤ 1) : ∀ p : Nat, -((p : Rat) * (h * h)) ≤ sinP (y + h) (p + 1) - sinP y (p + 1) - h * cosP y p ∧ sinP (y + h) (p + 1) - sinP y (p + 1) - h * cosP y p ≤ (p : Rat) * (h * h)
 | 0 => by
  simp only [sinP, cosP, ca, F]
  constructor <;> grind
 | p + 1 => by
  obtain ⟨i1, i2⟩ := sinP_step hy hh h1 p
  obtain ⟨f1, f2⟩ := F_step hy hh h1 p
  obtain ⟨c1, c2, _, _⟩ := ca_bound p
  obtain ⟨m1, m2⟩ := mul_bound c1 c2 f1 f2
  have e1 : ∀ z, sinP z (p + 2) = sinP z (p + 1) + (ca p).1 * F z (p + 1) := fun z => rfl
  have e2 : cosP y (p + 1) = cosP y p + (ca p).1 * F y p := rfl
  have hc : ((p + 1 : Nat) : Rat) = (p : Rat) + 1 := by push_cast; rfl
  rw [e1, e1, e2, hc]
  constructor <;> grind
theorem cosP_step {y h : Rat} (hy : 0 ≤ y) (hh : 0 ≤ h) (h1 : y + h ≤ 1) : ∀ p : Nat, -((p : Rat) * (h * h)) ≤ cosP (y + h) (p + 1) - cosP y (p + 1) + h * sinP y p ∧ cosP (y + h) (p + 1) - cosP y (p + 1) + h * sinP y p ≤ (p : Rat) * (h * h)
 | 0 => by
  simp only [sinP, cosP, ca, F]
  constructor <;> grind
 | p + 1 => by
  obtain ⟨i1, i2⟩ := cosP_step hy hh h1 p
  obtain ⟨f1, f2⟩ := F_step hy hh h1 p
  obtain ⟨_, _, c1, c2⟩ := ca_bound p
  obtain ⟨m1, m2⟩ := mul_bound c1 c2 f1 f2
  have e1 : ∀ z, cosP z (p + 2) = cosP z (p + 1) + -(ca p).2 * F z (p + 1) := fun z => rfl
  have e2 : sinP y (p + 1) = sinP y p + (ca p).2 * F y p := rfl
  have hc : ((p + 1 : Nat) : Rat) = (p : Rat) + 1 := by push_cast; rfl
  rw [e1, e1, e2, hc]
  constructor <;> grind
theorem F_zero : ∀ i, F 0 (i + 1) = 0
 | 0 => by simp only [F]; grind
 | i + 1 => by
  have := F_zero i
  have e : F 0 (i + 2) = F 0 (i + 1) * 0 * g (i + 1) := rfl
  rw [e]; grind
theorem sinP_zero : ∀ p, sinP 0 p = 0
 | 0 => rfl
 | 1 => by simp only [sinP, ca]; grind
 | p + 2 => by
  have := sinP_zero (p + 1)
  have e : sinP 0 (p + 2) = sinP 0 (p + 1) + (ca (p + 1)).2 * F 0 (p + 1) := rfl
  rw [e, F_zero]; grind
theorem cosP_zero : ∀ p, cosP 0 (p + 1) = 1
 | 0 => by simp only [cosP, ca, F]; grind
 | p + 1 => by
  have := cosP_zero p
  have e : cosP 0 (p + 2) = cosP 0 (p + 1) + (ca (p + 1)).1 * F 0 (p + 1) := rfl
  rw [e, F_zero]; grind
def rot (c1 s1 : Rat) : Nat → Rat × Rat
 | 0 => (1, 0)
 | n + 1 => ((rot c1 s1 n).1 * c1 - (rot c1 s1 n).2 * s1, (rot c1 s1 n).2 * c1 + (rot c1 s1 n).1 * s1)
section
variable {c1 s1 : Rat}
theorem rot_sq (h : c1 * c1 + s1 * s1 = 1) : ∀ n, (rot c1 s1 n).1 * (rot c1 s1 n).1 + (rot c1 s1 n).2 * (rot c1 s1 n).2 = 1
 | 0 => by simp only [rot]; grind
 | n + 1 => by
  have := rot_sq h n
  simp only [rot]
  grind
theorem rot_add (m : Nat) : ∀ n, (rot c1 s1 (m + n)).1 = (rot c1 s1 m).1 * (rot c1 s1 n).1 - (rot c1 s1 m).2 * (rot c1 s1 n).2 ∧ (rot c1 s1 (m + n)).2 = (rot c1 s1 m).2 * (rot c1 s1 n).1 + (rot c1 s1 m).1 * (rot c1 s1 n).2
 | 0 => by simp only [rot, Nat.add_zero]; constructor <;> grind
 | n + 1 => by
  obtain ⟨h1, h2⟩ := rot_add m n
  rw [← Nat.add_assoc]
  simp only [rot]
  constructor <;> grind
theorem sq_nonneg (x : Rat) : 0 ≤ x * x := by
 rcases (Rat.le_total : 0 ≤ x ∨ x ≤ 0) with h | h
 ·exact Rat.mul_nonneg h h
 ·have := Rat.mul_nonneg (show 0 ≤ -x by grind) (show 0 ≤ -x by grind)
  grind
theorem le_one_of_sq {x : Rat} (h : x * x ≤ 1) : x ≤ 1 := by
 rcases (Rat.le_total : x ≤ 1 ∨ 1 ≤ x) with h1 | h1
 ·exact h1
 ·have := Rat.mul_le_mul_of_nonneg_left h1 (show 0 ≤ x by grind)
  grind
theorem unit_bound {a b : Rat} (h : a * a + b * b = 1) : -1 ≤ a ∧ a ≤ 1 ∧ -1 ≤ b ∧ b ≤ 1 := by
 have ha := sq_nonneg a
 have hb := sq_nonneg b
 have k1 := le_one_of_sq (x := a) (by grind)
 have k2 := le_one_of_sq (x := b) (by grind)
 have k3 := le_one_of_sq (x := -a) (by grind)
 have k4 := le_one_of_sq (x := -b) (by grind)
 grind
def dd : Nat → Rat
 | 0 => 0
 | p + 1 => dd p + (p : Rat) + 1
theorem dd_nonneg : ∀ p, 0 ≤ dd p
 | 0 => by unfold dd; grind
 | p + 1 => by
  have := dd_nonneg p
  have h : (0 : Rat) ≤ (p : Rat) := by exact_mod_cast Nat.zero_le p
  unfold dd; grind
theorem taylor (h : c1 * c1 + s1 * s1 = 1) (hc : 0 ≤ c1) (hs : 0 ≤ s1) : ∀ (p n : Nat), s1 * (n : Rat) ≤ 1 →
  (-(F (s1 * n) p + s1 * dd p) ≤ (rot c1 s1 n).1 - cosP (s1 * n) p ∧ (rot c1 s1 n).1 - cosP (s1 * n) p ≤ F (s1 * n) p + s1 * dd p) ∧
  (-(F (s1 * n) p + s1 * dd p) ≤ (rot c1 s1 n).2 - sinP (s1 * n) p ∧ (rot c1 s1 n).2 - sinP (s1 * n) p ≤ F (s1 * n) p + s1 * dd p)
 | 0, n, _ => by
  have := unit_bound (rot_sq h n)
  simp only [F, cosP, sinP, dd]
  grind
 | p + 1, n, hn => by
  have hq : 1 - c1 ≤ s1 * s1 := by
   have hb := (unit_bound h).2.1
   have := Rat.mul_nonneg hc (show 0 ≤ 1 - c1 by grind)
   grind
  have hq0 : 0 ≤ 1 - c1 := by have := (unit_bound h).2.1; grind
  have hp : (0 : Rat) ≤ (p : Rat) := by exact_mod_cast Nat.zero_le p
  have hdd := dd_nonneg p
  have main : ∀ m : Nat, s1 * (m : Rat) ≤ 1 →
    (-(F (s1 * m) (p + 1) + s1 * (s1 * m) * (dd p + p + 1)) ≤ (rot c1 s1 m).1 - cosP (s1 * m) (p + 1) ∧ (rot c1 s1 m).1 - cosP (s1 * m) (p + 1) ≤ F (s1 * m) (p + 1) + s1 * (s1 * m) * (dd p + p + 1)) ∧
    (-(F (s1 * m) (p + 1) + s1 * (s1 * m) * (dd p + p + 1)) ≤ (rot c1 s1 m).2 - sinP (s1 * m) (p + 1) ∧ (rot c1 s1 m).2 - sinP (s1 * m) (p + 1) ≤ F (s1 * m) (p + 1) + s1 * (s1 * m) * (dd p + p + 1)) := by
   intro m
   induction m with
   | zero =>
    intro _
    have e : s1 * ((0 : Nat) : Rat) = 0 := by push_cast; grind
    rw [e, F_zero, cosP_zero, sinP_zero]
    simp only [rot]
    grind
   | succ m ih =>
    intro hm
    have hcast : ((m + 1 : Nat) : Rat) = (m : Rat) + 1 := by push_cast; rfl
    have hm0 : (0 : Rat) ≤ (m : Rat) := by exact_mod_cast Nat.zero_le m
    have hy : 0 ≤ s1 * (m : Rat) := Rat.mul_nonneg hs hm0
    have ey : s1 * ((m + 1 : Nat) : Rat) = s1 * (m : Rat) + s1 := by rw [hcast]; grind
    rw [ey] at hm ⊢
    obtain ⟨⟨a1, a2⟩, ⟨a3, a4⟩⟩ := ih (by grind)
    obtain ⟨⟨b1, b2⟩, ⟨b3, b4⟩⟩ := taylor h hc hs p m (by grind)
    obtain ⟨u1, u2, u3, u4⟩ := unit_bound (rot_sq h m)
    generalize hyy : s1 * (m : Rat) = y at *
    obtain ⟨f1, _⟩ := F_step hy hs hm p
    obtain ⟨s2, s3⟩ := sinP_step hy hs hm p
    obtain ⟨t2, t3⟩ := cosP_step hy hs hm p
    have hss : 0 ≤ s1 * s1 := Rat.mul_nonneg hs hs
    have er : (rot c1 s1 (m + 1)).1 = (rot c1 s1 m).1 * c1 - (rot c1 s1 m).2 * s1 := rfl
    have er2 : (rot c1 s1 (m + 1)).2 = (rot c1 s1 m).2 * c1 + (rot c1 s1 m).1 * s1 := rfl
    rw [er, er2]
    generalize (rot c1 s1 m).1 = C at *
    generalize (rot c1 s1 m).2 = S at *
    obtain ⟨v1, v2⟩ := mul_bound u1 u2 hq0 hq
    obtain ⟨v3, v4⟩ := mul_bound u3 u4 hq0 hq
    have w1 := Rat.mul_le_mul_of_nonneg_left b1 hs
    have w2 := Rat.mul_le_mul_of_nonneg_left b2 hs
    have w3 := Rat.mul_le_mul_of_nonneg_left b3 hs
    have w4 := Rat.mul_le_mul_of_nonneg_left b4 hs
    generalize F (y + s1) (p + 1) = F1 at *
    generalize F y (p + 1) = F0 at *
    generalize F y p = Fp at *
    generalize dd p = D at *
    generalize cosP (y + s1) (p + 1) = P1 at *
    generalize cosP y (p + 1) = P0 at *
    generalize cosP y p = Pp at *
    generalize sinP (y + s1) (p + 1) = Q1 at *
    generalize sinP y (p + 1) = Q0 at *
    generalize sinP y p = Qp at *
    clear ih hn ey hcast
    refine ⟨⟨?_, ?_⟩, ⟨?_, ?_⟩⟩ <;> grind
  have hm0 : (0 : Rat) ≤ (n : Rat) := by exact_mod_cast Nat.zero_le n
  have hy : 0 ≤ s1 * (n : Rat) := Rat.mul_nonneg hs hm0
  obtain ⟨⟨a1, a2⟩, ⟨a3, a4⟩⟩ := main n hn
  have k : s1 * (s1 * n) * (dd p + p + 1) ≤ s1 * dd (p + 1) := by
   have e : dd (p + 1) = dd p + (p : Rat) + 1 := rfl
   rw [e]
   have := Rat.mul_le_mul_of_nonneg_left hn (Rat.mul_nonneg hs (show 0 ≤ dd p + (p : Rat) + 1 by grind))
   grind
  generalize F (s1 * n) (p + 1) = F0 at *
  grind
end
def th : Rat := 28572618735686712520533941 / 10000000000000000000000000000000000000000000000000000
def s1 : Rat := 2 * th / (1 + th * th)
def c1 : Rat := (1 - th * th) / (1 + th * th)
theorem step_sq : c1 * c1 + s1 * s1 = 1 := by decide +kernel
theorem c1_nonneg : 0 ≤ c1 := by decide +kernel
theorem s1_nonneg : 0 ≤ s1 := by decide +kernel
theorem s1_small : s1 ≤ 1 / 100000000000000000000000000 := by decide +kernel
def n4 : Nat := 274877906944000000000000000
def n8 : Nat := 137438953472000000000000000
def cosT (n : Nat) : Rat := (rot c1 s1 n).1
def sinT (n : Nat) : Rat := (rot c1 s1 n).2
theorem T_sq (n : Nat) : cosT n * cosT n + sinT n * sinT n = 1 := rot_sq step_sq n
theorem T_bound (n : Nat) : -1 ≤ cosT n ∧ cosT n ≤ 1 ∧ -1 ≤ sinT n ∧ sinT n ≤ 1 := unit_bound (T_sq n)
theorem cosT_add (m n : Nat) : cosT (m + n) = cosT m * cosT n - sinT m * sinT n := (rot_add m n).1
theorem sinT_add (m n : Nat) : sinT (m + n) = sinT m * cosT n + cosT m * sinT n := (rot_add m n).2
theorem T_taylor (p n : Nat) (h : s1 * (n : Rat) ≤ 1) :
  (-(F (s1 * n) p + s1 * dd p) ≤ cosT n - cosP (s1 * n) p ∧ cosT n - cosP (s1 * n) p ≤ F (s1 * n) p + s1 * dd p) ∧
  (-(F (s1 * n) p + s1 * dd p) ≤ sinT n - sinP (s1 * n) p ∧ sinT n - sinP (s1 * n) p ≤ F (s1 * n) p + s1 * dd p) := taylor step_sq c1_nonneg s1_nonneg p n h
theorem y8_le : s1 * (n8 : Rat) ≤ 1 := by decide +kernel
theorem y8_e : F (s1 * (n8 : Rat)) 24 + s1 * dd 24 ≤ 1 / 300000000000000000000000 := by decide +kernel
theorem y8_1 : cosP (s1 * (n8 : Rat)) 24 - sinP (s1 * (n8 : Rat)) 24 ≤ 1 / 10000000000000000000000000 := by decide +kernel
theorem y8_2 : -(1 / 10000000000000000000000000) ≤ cosP (s1 * (n8 : Rat)) 24 - sinP (s1 * (n8 : Rat)) 24 := by decide +kernel
theorem y8_3 : 1 / 2 ≤ sinP (s1 * (n8 : Rat)) 24 := by decide +kernel
theorem y8_4 : 1 / 2 ≤ cosP (s1 * (n8 : Rat)) 24 := by decide +kernel
theorem T8 : -(1 / 100000000000000000000000) ≤ cosT n8 - sinT n8 ∧ cosT n8 - sinT n8 ≤ 1 / 100000000000000000000000 ∧ 0 ≤ sinT n8 ∧ 0 ≤ cosT n8 := by
 obtain ⟨⟨a1, a2⟩, ⟨a3, a4⟩⟩ := T_taylor 24 n8 y8_le
 have e1 := y8_e
 have e2 := y8_1
 have e3 := y8_2
 have e4 := y8_3
 have e5 := y8_4
 generalize F (s1 * (n8 : Rat)) 24 + s1 * dd 24 = e at *
 generalize cosP (s1 * (n8 : Rat)) 24 = P at *
 generalize sinP (s1 * (n8 : Rat)) 24 = Q at *
 generalize cosT n8 = C at *
 generalize sinT n8 = S at *
 grind
theorem four_aux {C S C8 S8 : Rat} (h1 : -(1 / 100000000000000000000000) ≤ C8 - S8) (h2 : C8 - S8 ≤ 1 / 100000000000000000000000) (h3 : 0 ≤ S8) (h4 : 0 ≤ C8) (b2 : C8 ≤ 1) (b4 : S8 ≤ 1)
  (e1 : C = C8 * C8 - S8 * S8) (e2 : S = S8 * C8 + C8 * S8) (hsq : C * C + S * S = 1) (hS : S ≤ 1) :
  -(1 / 10000000000000000000000) ≤ C ∧ C ≤ 1 / 10000000000000000000000 ∧ 1 - 1 / 10000000000000000000000000000000000000000 ≤ S ∧ S ≤ 1 := by
 have hsum : 0 ≤ C8 + S8 := by grind
 have k1 := Rat.mul_le_mul_of_nonneg_left h1 hsum
 have k2 := Rat.mul_le_mul_of_nonneg_left h2 hsum
 have hs0 : 0 ≤ S := by have := Rat.mul_nonneg h3 h4; rw [e2]; grind
 have c1 : -(1 / 10000000000000000000000) ≤ C := by rw [e1]; grind
 have c2 : C ≤ 1 / 10000000000000000000000 := by rw [e1]; grind
 refine ⟨c1, c2, ?_, hS⟩
 have p1 := Rat.mul_nonneg (show 0 ≤ 1 / 10000000000000000000000 - C by grind) (show 0 ≤ 1 / 10000000000000000000000 + C by grind)
 have m2 := Rat.mul_nonneg hs0 (show 0 ≤ 1 - S by grind)
 clear e1 e2 k1 k2
 grind
theorem n4_eq : n4 = n8 + n8 := by decide +kernel
theorem T4 : -(1 / 10000000000000000000000) ≤ cosT n4 ∧ cosT n4 ≤ 1 / 10000000000000000000000 ∧ 1 - 1 / 10000000000000000000000000000000000000000 ≤ sinT n4 ∧ sinT n4 ≤ 1 := by
 obtain ⟨h1, h2, h3, h4⟩ := T8
 obtain ⟨_, b2, _, b4⟩ := T_bound n8
 have hsq := T_sq n4
 have hb := (T_bound n4).2.2.2
 rw [n4_eq] at hsq hb ⊢
 exact four_aux h1 h2 h3 h4 b2 b4 (cosT_add n8 n8) (sinT_add n8 n8) hsq hb
end Go.Proofs.Ytmahlfjnejbcnaa.Turn
