/- The astrolabe's points: products of a radius and a cosine. -/
import Derived.Test.YtelcegpaakbppaaAstrolabeStarsn7
import Derived.Test.YtelcegpaakbppaaAstrolabeStarsn12
import Derived.Test.YtelcegpaakbppaaAstrolabeStarsn28
namespace Go.Proofs.Ytelcegpaakbppaa.StarP
open Go Go.RowKit Go.Proofs.YtelcegpaakbppaaW.PrintWords Go.Proofs.YtelcegpaakbppaaW.PrintLast Go.Proofs.YtelcegpaakbppaaW.PrintMore Go.Proofs.Ytelcegpaakbppaa.PAll Go.Proofs.Ytelcegpaakbppaa.Base Go.Proofs.Ytelcegpaakbppaa.WideN Go.Proofs.Ytelcegpaakbppaa.WideT Go.Proofs.Ytelcegpaakbppaa.IvalG Go.Proofs.Ytelcegpaakbppaa.Turn Go.Proofs.Ytelcegpaakbppaa.Fix Go.Proofs.Ytelcegpaakbppaa.OctT Go.Proofs.Ytelcegpaakbppaa.SinT Go.Proofs.Ytelcegpaakbppaa.RefT Go.Proofs.Ytelcegpaakbppaa.Circ Go.Proofs.Ytelcegpaakbppaa.AngT Go.Proofs.Ytelcegpaakbppaa.AstroT
set_option linter.unusedVariables false
set_option linter.unusedSimpArgs false
theorem lo_big {x b a δ ω t : Rat} (ht : 1 / 100 ≤ t) (k : x * δ ≤ 1000000 * ω - 49 / 100000 * t) (p : x * (b - u * δ) ≤ (17300000 * t + 3) * 1700000) (a0 : -3200003 ≤ a - u * ω) : x * b ≤ 1000000 * (a + 1048576) := by
  rw [u_eq] at *
  grind
theorem lo_small {x b a δ ω γ : Rat} (g0 : -(1 / 1000000000000) ≤ γ) (k : x * δ ≤ 1000000 * ω - 99 / 100000 * γ + 1 / 100000000000000) (p : x * (b - u * δ) ≤ 173003 * 1700000) (a0 : -((γ + 2 / 1000000000000) * 1600000 + 16003) ≤ a - u * ω) : x * b ≤ 1000000 * (a + 1048576) := by
  rw [u_eq] at *
  grind
/-- what Mul and Scale tell, in real numbers: x and y bound r k for each corner -/
structure Cor (x y L H kl kh : Rat) : Prop where
  x1 : x * 1000000000 ≤ L * kl
  x2 : x * 1000000000 ≤ L * kh
  x3 : x * 1000000000 ≤ H * kl
  x4 : x * 1000000000 ≤ H * kh
  y1 : L * kl ≤ y * 1000000000
  y2 : L * kh ≤ y * 1000000000
  y3 : H * kl ≤ y * 1000000000
  y4 : H * kh ≤ y * 1000000000
theorem Cor.neg {x y L H kl kh : Rat} (h : Cor x y L H kl kh) : Cor (-y) (-x) L H (-kh) (-kl) := by
  obtain ⟨x1, x2, x3, x4, y1, y2, y3, y4⟩ := h
  constructor <;> grind
/-- with a cosine that is not small -/
theorem cor_pos {x y L H kl kh κ γ δ : Rat} (c : Cor x y L H kl kh) (h0 : kl ≤ 1000000000 * κ) (h1 : 1000000000 * κ ≤ kh) (d0 : 0 ≤ δ) (k0 : 0 ≤ κ) (hL : L * δ ≤ 1000000 * γ - 49 / 100000) : x * δ ≤ 1000000 * (γ * κ) - 49 / 100000 * κ := by
  have a := betw' (L := L) h0 h1 c.x1 c.x2
  have a1 : x ≤ L * κ := by grind
  have a2 := Rat.mul_le_mul_of_nonneg_left a1 d0
  have a3 := Rat.mul_le_mul_of_nonneg_left hL k0
  grind
theorem cor_neg {x y L H kl kh κ γ δ : Rat} (c : Cor x y L H kl kh) (h0 : kl ≤ 1000000000 * κ) (h1 : 1000000000 * κ ≤ kh) (d0 : 0 ≤ δ) (k0 : κ ≤ 0) (hH : 1000000 * γ + 49 / 100000 ≤ H * δ) : x * δ ≤ 1000000 * (γ * κ) - 49 / 100000 * (-κ) := by
  have a := betw' (L := H) h0 h1 c.x3 c.x4
  have a1 : x ≤ H * κ := by grind
  have a2 := Rat.mul_le_mul_of_nonneg_left a1 d0
  have a3 := Rat.mul_le_mul_of_nonneg_left hH (show 0 ≤ -κ by grind)
  grind
/-- with a cosine that is small -/
theorem cor_small {x y L H kl kh κ γ δ : Rat} (c : Cor x y L H kl kh) (h0 : kl ≤ 1000000000 * κ - 99 / 100) (h2 : 1000000000 * κ - 3 ≤ kl) (d0 : 0 ≤ δ) (g0 : -(1 / 1000000000000) ≤ γ) (hL : L * δ ≤ 1000000 * γ) (hH : 1000000 * γ ≤ H * δ) : x * δ ≤ 1000000 * (γ * κ) - 99 / 100000 * γ + 1 / 100000000000000 := by
  have a1 := Rat.mul_le_mul_of_nonneg_left c.x1 d0
  have a3 := Rat.mul_le_mul_of_nonneg_left c.x3 d0
  have a := betw' (L := kl) (m := x * 1000000000 * δ) hL hH (by grind) (by grind)
  rcases (Rat.le_total : (0 : Rat) ≤ γ ∨ γ ≤ 0) with n | n
  · have b := Rat.mul_le_mul_of_nonneg_left h0 n
    grind
  · have b := Rat.mul_le_mul_of_nonneg_left h2 (show 0 ≤ -γ by grind)
    grind
/-- the reference's product of two cosines -/
structure Pr (a : Int) (γ κ : Rat) : Prop where
  big : -3200003 ≤ (a : Rat) - u * (γ * κ) ∧ (a : Rat) - u * (γ * κ) ≤ 3200003
  small : -(1 / 100) ≤ κ → κ ≤ 1 / 100 → -((γ + 2 / 1000000000000) * 1600000 + 16003) ≤ (a : Rat) - u * (γ * κ) ∧ (a : Rat) - u * (γ * κ) ≤ (γ + 2 / 1000000000000) * 1600000 + 16003
theorem pr_of {c k : Int} {γ κ : Rat} (a1 : -1600000 ≤ (c : Rat) - u * γ) (a2 : (c : Rat) - u * γ ≤ 1600000) (b1 : -1600000 ≤ (k : Rat) - u * κ) (b2 : (k : Rat) - u * κ ≤ 1600000) (g0 : -(1 / 1000000000000) ≤ γ) (g1 : γ ≤ 1) (k0 : -1 ≤ κ) (k1 : κ ≤ 1) : Pr (rm c k) γ κ := by
  constructor
  · obtain ⟨e1, e2⟩ := rm_err (X := 1) (Y := 1) a1 a2 b1 b2 (by decide +kernel) (by decide +kernel) (by grind) g1 k0 k1
    constructor <;> grind
  · intro s0 s1
    obtain ⟨e1, e2⟩ := rm_err (X := γ + 2 / 1000000000000) (Y := 1 / 100) a1 a2 b1 b2 (by decide +kernel) (by decide +kernel) (by grind) (by grind) s0 s1
    constructor <;> grind
theorem lo_all {x y L H kl kh κ γ δ b a : Rat} (c : Cor x y L H kl kh) (h0 : kl ≤ 1000000000 * κ) (h1 : 1000000000 * κ ≤ kh) (h2 : κ ≤ 1 / 100 → -(1 / 100) ≤ κ → kl ≤ 1000000000 * κ - 99 / 100 ∧ 1000000000 * κ - 3 ≤ kl) (d0 : 0 ≤ δ) (g0 : -(1 / 1000000000000) ≤ γ) (hL : L * δ ≤ 1000000 * γ - 49 / 100000) (hH : 1000000 * γ + 49 / 100000 ≤ H * δ)
    (p : ∀ T, -T ≤ κ → κ ≤ T → x * (b - u * δ) ≤ (17300000 * T + 3) * 1700000) (a0 : -3200003 ≤ a - u * (γ * κ)) (a1 : -(1 / 100) ≤ κ → κ ≤ 1 / 100 → -((γ + 2 / 1000000000000) * 1600000 + 16003) ≤ a - u * (γ * κ)) : x * b ≤ 1000000 * (a + 1048576) := by
  by_cases s1 : 1 / 100 ≤ κ
  · exact lo_big (t := κ) s1 (cor_pos c h0 h1 d0 (by grind) hL) (p κ (by grind) (by grind)) a0
  · by_cases s2 : κ ≤ -(1 / 100)
    · exact lo_big (t := -κ) (by grind) (cor_neg c h0 h1 d0 (by grind) hH) (p (-κ) (by grind) (by grind)) a0
    · obtain ⟨e1, e2⟩ := h2 (by grind) (by grind)
      have pp := p (1 / 100) (by grind) (by grind)
      exact lo_small g0 (cor_small c e1 e2 d0 g0 (by grind) (by grind)) (by grind) (a1 (by grind) (by grind))
theorem prod_w {a b c d : Int} (h1 : a - c ≤ 3) (h2 : -3 ≤ a - c) (b1 : -1000000000 ≤ b) (b2 : b ≤ 1000000000) (c1 : -17300000 ≤ c) (c2 : c ≤ 17300000) (d1 : b - d ≤ 3) (d2 : -3 ≤ b - d) : a * b - c * d ≤ 3051900000 := by
  have k1 : (a - c) * b ≤ 3000000000 := by
    obtain ⟨w, hw⟩ : ∃ w, a - c = w := ⟨_, rfl⟩
    rw [hw]
    have : w = -3 ∨ w = -2 ∨ w = -1 ∨ w = 0 ∨ w = 1 ∨ w = 2 ∨ w = 3 := by omega
    rcases this with e | e | e | e | e | e | e <;> rw [e] <;> omega
  have k2 : c * (b - d) ≤ 51900000 := by
    obtain ⟨w, hw⟩ : ∃ w, b - d = w := ⟨_, rfl⟩
    rw [hw]
    have : w = -3 ∨ w = -2 ∨ w = -1 ∨ w = 0 ∨ w = 1 ∨ w = 2 ∨ w = 3 := by omega
    rcases this with e | e | e | e | e | e | e <;> rw [e] <;> omega
  rw [Int.sub_mul] at k1
  rw [Int.mul_sub] at k2
  omega
theorem prod_b {a b : Int} (a1 : -17300000 ≤ a) (a2 : a ≤ 17300000) (b1 : -1000000000 ≤ b) (b2 : b ≤ 1000000000) : -17300000000000000 ≤ a * b ∧ a * b ≤ 17300000000000000 := by
  rcases Int.lt_or_le a 0 with n | n
  · have k1 := Int.mul_le_mul_of_nonneg_left b2 (show 0 ≤ -a by omega)
    have k2 := Int.mul_le_mul_of_nonneg_left b1 (show 0 ≤ -a by omega)
    rw [Int.neg_mul, Int.neg_mul] at k1 k2
    omega
  · have k1 := Int.mul_le_mul_of_nonneg_left b2 n
    have k2 := Int.mul_le_mul_of_nonneg_left b1 n
    omega
/-- one coordinate -/
theorem coord_ev {L H l h : Int} {γ δ κ w : Rat} (R : RR L H γ δ) (b : Box l h w) (n1 : w - κ ≤ 1 / 100000000000000000000) (n2 : κ - w ≤ 1 / 100000000000000000000) (k0 : -1 ≤ κ) (k1 : κ ≤ 1) (g0 : -(1 / 1000000000000) ≤ γ) (g1 : γ ≤ 1) (d0 : 0 ≤ δ) :
    ∃ m M x y, Ev (fun k => interval_Mul.f k L H (mx (-1000000000) l) (mn 1000000000 h)) (m, M, 0) ∧ Ev (fun k => interval_Scale.f k m M 1 1000000000) (x, y, 0) ∧ x ≤ y ∧ y - x ≤ 10 ∧ -100000000 ≤ x ∧ y ≤ 100000000 ∧
      ∀ a B : Int, Pr a γ κ → -1700000 ≤ ((2 * B : Int) : Rat) - u * δ → ((2 * B : Int) : Rat) - u * δ ≤ 1700000 → x * (2 * B) ≤ 1000000 * (a + 1048576) ∧ 1000000 * (a - 1048576) ≤ y * (2 * B) := by
  have R0 := R
  obtain ⟨r0, r1, r2, r3, r4, r5⟩ := R0
  have hr := box_rat b
  obtain ⟨b1, b2, b3⟩ := b
  have kl0 : -1000000000 ≤ mx (-1000000000) l ∧ l ≤ mx (-1000000000) l := by unfold mx; split <;> omega
  have kh0 : mn 1000000000 h ≤ 1000000000 ∧ mn 1000000000 h ≤ h := by unfold mn; split <;> omega
  have lw : l ≤ 1000000000 := by
    refine int_of_rat ?_
    push_cast
    grind
  have hw : -1000000000 ≤ h := by
    refine int_of_rat ?_
    push_cast
    grind
  have kll : mx (-1000000000) l ≤ mn 1000000000 h ∧ mn 1000000000 h - mx (-1000000000) l ≤ 3 ∧ mx (-1000000000) l ≤ 1000000000 ∧ -1000000000 ≤ mn 1000000000 h := by unfold mx mn; split <;> split <;> omega
  have K0 : ((mx (-1000000000) l : Int) : Rat) ≤ 1000000000 * κ := by
    unfold mx
    split
    · grind
    · push_cast; grind
  have K1 : 1000000000 * κ ≤ ((mn 1000000000 h : Int) : Rat) := by
    unfold mn
    split
    · push_cast; grind
    · grind
  have K2 : κ ≤ 1 / 100 → -(1 / 100) ≤ κ → ((mx (-1000000000) l : Int) : Rat) ≤ 1000000000 * κ - 99 / 100 ∧ 1000000000 * κ - 3 ≤ ((mx (-1000000000) l : Int) : Rat) := by
    intro s1 s2
    have : -1000000000 < l := by
      have : -999999999 ≤ l := by
        refine int_of_rat ?_
        push_cast
        grind
      omega
    rw [show mx (-1000000000) l = l by unfold mx; rw [if_pos this]]
    constructor <;> grind
  have K3 : -κ ≤ 1 / 100 → -(1 / 100) ≤ -κ → -((mn 1000000000 h : Int) : Rat) ≤ 1000000000 * (-κ) - 99 / 100 ∧ 1000000000 * (-κ) - 3 ≤ -((mn 1000000000 h : Int) : Rat) := by
    intro s1 s2
    have : h < 1000000000 := by
      have : h ≤ 999999999 := by
        refine int_of_rat ?_
        push_cast
        grind
      omega
    rw [show mn 1000000000 h = h by unfold mn; rw [if_pos this]]
    constructor <;> grind
  have K4 : 1000000000 * κ - 4 ≤ ((mx (-1000000000) l : Int) : Rat) ∧ ((mn 1000000000 h : Int) : Rat) ≤ 1000000000 * κ + 4 := by
    have := cle kl0.2
    have := cle kh0.2
    constructor <;> grind
  clear b1 b2 b3 hr lw hw n1 n2
  generalize mx (-1000000000) l = kl at *
  generalize mn 1000000000 h = kh at *
  have B1 : B18 L := by unfold B18; omega
  have B2 : B18 H := by unfold B18; omega
  have B3 : B18 kl := by unfold B18; omega
  have B4 : B18 kh := by unfold B18; omega
  have z : two L H kl kh = 0 := by
    unfold two
    rw [if_pos (sp_ok (by omega) r0 (by omega)), sp_ok (by omega) kll.1 (by omega)]
  have q1 := prod_b (a := L) (b := kl) (by omega) (by omega) (by omega) (by omega)
  have q2 := prod_b (a := L) (b := kh) (by omega) (by omega) (by omega) (by omega)
  have q3 := prod_b (a := H) (b := kl) (by omega) (by omega) (by omega) (by omega)
  have q4 := prod_b (a := H) (b := kh) (by omega) (by omega) (by omega) (by omega)
  obtain ⟨m, M, em, ⟨l1, l2, l3, l4⟩, ⟨u1, u2, u3, u4⟩, lm, gm⟩ := mul_ev B1 B2 B3 B4 z (by unfold B18; omega) (by unfold B18; omega) (by unfold B18; omega) (by unfold B18; omega)
  have hm : -17300000000000000 ≤ m ∧ M ≤ 17300000000000000 ∧ m ≤ M := by
    refine ⟨?_, ?_, by omega⟩
    · rcases lm with e | e | e | e <;> omega
    · rcases gm with e | e | e | e <;> omega
  have wid : M - m ≤ 3051900000 := by
    rcases gm with e | e | e | e <;> rcases lm with d | d | d | d <;> rw [e, d] <;> exact prod_w (by omega) (by omega) (by omega) (by omega) (by omega) (by omega) (by omega) (by omega)
  have es := scale_ev (a0 := m) (a1 := M) (num := 1) (den := 1000000000) (by unfold B18; omega) (by unfold B18; omega) (sp_ok (by omega) hm.2.2 (by omega)) (by omega) (by omega) (by omega) (by omega)
  rw [if_neg (by omega), Int.mul_one, Int.mul_one] at es
  have esc : sc m M 1000000000 = (m / 1000000000, -(-M / 1000000000), 0) := by
    unfold sc B18
    rw [if_pos (by omega)]
  rw [esc] at es
  refine ⟨m, M, m / 1000000000, -(-M / 1000000000), em, es, by omega, by omega, by omega, by omega, ?_⟩
  have x0 : m / 1000000000 * 1000000000 ≤ m := by omega
  have y0 : M ≤ -(-M / 1000000000) * 1000000000 := by omega
  have x9 : m - 1000000000 ≤ m / 1000000000 * 1000000000 := by omega
  have y9 : -(-M / 1000000000) * 1000000000 ≤ M + 1000000000 := by omega
  have xy : m / 1000000000 ≤ -(-M / 1000000000) := by omega
  generalize m / 1000000000 = x at *
  generalize -(-M / 1000000000) = y at *
  have C : Cor (x : Rat) (y : Rat) (L : Rat) (H : Rat) (kl : Rat) (kh : Rat) := by
    have f : ∀ a b : Int, x * 1000000000 ≤ a * b → (x : Rat) * 1000000000 ≤ (a : Rat) * (b : Rat) := by
      intro a b hh; have := icast hh; push_cast at this; exact this
    have g : ∀ a b : Int, a * b ≤ y * 1000000000 → (a : Rat) * (b : Rat) ≤ (y : Rat) * 1000000000 := by
      intro a b hh; have := icast hh; push_cast at this; exact this
    exact ⟨f _ _ (by omega), f _ _ (by omega), f _ _ (by omega), f _ _ (by omega), g _ _ (by omega), g _ _ (by omega), g _ _ (by omega), g _ _ (by omega)⟩
  have hL : (L : Rat) * δ ≤ 1000000 * γ - 49 / 100000 := by clear C; grind
  have hH : 1000000 * γ + 49 / 100000 ≤ (H : Rat) * δ := by
    clear C
    rcases r5 with r5 | ⟨r5, r6, r7⟩
    · grind
    · have := cle r5
      push_cast at this
      grind
  have size : ∀ T : Rat, -T ≤ κ → κ ≤ T → -(17300000 * T + 3) ≤ (x : Rat) ∧ (y : Rat) ≤ 17300000 * T + 3 := by
    intro T t1 t2
    have ab : ∀ (r k : Int), -17300000 ≤ r → r ≤ 17300000 → ((k : Rat) ≤ 1000000000 * κ + 4) → (1000000000 * κ - 4 ≤ (k : Rat)) → -(17300000 * (1000000000 * T + 4)) ≤ (r : Rat) * (k : Rat) ∧ (r : Rat) * (k : Rat) ≤ 17300000 * (1000000000 * T + 4) := by
      intro r k h1 h2 h3 h4
      have e1 := cle h1
      have e2 := cle h2
      push_cast at e1 e2
      exact OctT.abs_mul e1 e2 (by grind) (by grind)
    have a1 := ab L kl (by omega) (by omega) (by grind) K4.1
    have a2 := ab L kh (by omega) (by omega) K4.2 (by grind)
    have a3 := ab H kl (by omega) (by omega) (by grind) K4.1
    have a4 := ab H kh (by omega) (by omega) K4.2 (by grind)
    have x9' := cle x9
    have y9' := cle y9
    push_cast at x9' y9'
    have mm : -(17300000 * (1000000000 * T + 4)) ≤ (m : Rat) := by
      rcases lm with e | e | e | e <;> rw [e] <;> push_cast <;> first | exact a1.1 | exact a2.1 | exact a3.1 | exact a4.1
    have MM : (M : Rat) ≤ 17300000 * (1000000000 * T + 4) := by
      rcases gm with e | e | e | e <;> rw [e] <;> push_cast <;> first | exact a1.2 | exact a2.2 | exact a3.2 | exact a4.2
    clear C a1 a2 a3 a4
    constructor <;> grind
  have xyr := cle xy
  intro a B P e0 e1
  have p : ∀ T, -T ≤ κ → κ ≤ T → (x : Rat) * (((2 * B : Int) : Rat) - u * δ) ≤ (17300000 * T + 3) * 1700000 := by
    intro T t1 t2
    obtain ⟨s1, s2⟩ := size T t1 t2
    exact (prod_small s1 (Rat.le_trans xyr s2) e0 e1).2
  have p' : ∀ T, -T ≤ -κ → -κ ≤ T → -(y : Rat) * (((2 * B : Int) : Rat) - u * δ) ≤ (17300000 * T + 3) * 1700000 := by
    intro T t1 t2
    obtain ⟨s1, s2⟩ := size T (by grind) (by grind)
    exact (prod_small (x := -(y : Rat)) (X := 17300000 * T + 3) (by grind) (by grind) e0 e1).2
  constructor
  · refine int_of_rat ?_
    have r := lo_all C K0 K1 K2 d0 g0 hL hH p P.big.1 (fun s0 s1 => (P.small s0 s1).1)
    push_cast at r ⊢
    exact r
  · refine int_of_rat ?_
    have r := lo_all (κ := -κ) (a := -(a : Rat)) C.neg (by grind) (by grind) K3 d0 g0 hL hH p' (by have := P.big.2; grind) (fun s0 s1 => by have := (P.small (by grind) (by grind)).2; grind)
    push_cast at r ⊢
    clear C p p' size
    grind
end Go.Proofs.Ytelcegpaakbppaa.StarP
