/- Gram's determinants over whole numbers: no program in sight. -/
import Derived.Test.YtjbiebobhnbajaaGaugeFitsn15
namespace Go.Proofs.Ytjbiebobhnbajaa.GauA
open Go.RowKit Go.Proofs.YtjbiebobhnbajaaW.PrintWords
set_option linter.unusedVariables false
set_option linter.unusedSimpArgs false
def sumN (f : Nat → Int) : Nat → Int
  | 0 => 0
  | n + 1 => sumN f n + f n
theorem sumN_nonneg {f : Nat → Int} (h : ∀ s, 0 ≤ f s) : ∀ n, 0 ≤ sumN f n
  | 0 => Int.le_refl _
  | n + 1 => by have := sumN_nonneg h n; have := h n; unfold sumN; omega
theorem sumN_ge {f : Nat → Int} (h : ∀ s, 0 ≤ f s) : ∀ n s, s < n → f s ≤ sumN f n
  | 0, s, hs => by omega
  | n + 1, s, hs => by
    unfold sumN
    by_cases c : s = n
    · subst c; have := sumN_nonneg h s; omega
    · have := sumN_ge h n s (by omega); have := h n; omega
theorem sq0 (x : Int) : 0 ≤ x * x := by
  rcases Int.le_total 0 x with h | h
  · exact Int.mul_nonneg h h
  · have := Int.mul_nonneg (a := -x) (b := -x) (by omega) (by omega)
    rw [Int.neg_mul_neg] at this
    exact this
section
variable (a : Nat → Nat → Int) (h : Nat → Int)
def gm (n i j : Nat) : Int := sumN (fun s => a s i * a s j) n
def bv (n i : Nat) : Int := sumN (fun s => a s i * h s) n
/-- the sum of squares of a combination of columns -/
def LL (n : Nat) (x y z : Int) : Int := sumN (fun s => (x * a s 0 + y * a s 1 + z * a s 2) * (x * a s 0 + y * a s 1 + z * a s 2)) n
theorem LL_form : ∀ (n : Nat) (x y z : Int), LL a n x y z = x * x * gm a n 0 0 + y * y * gm a n 1 1 + z * z * gm a n 2 2 + 2 * (x * y * gm a n 0 1) + 2 * (x * z * gm a n 0 2) + 2 * (y * z * gm a n 1 2)
  | 0, x, y, z => by simp [LL, gm, sumN]
  | n + 1, x, y, z => by
    have ih := LL_form n x y z
    unfold LL gm at *
    simp only [sumN]
    rw [ih]
    grind
theorem LL_pos (n : Nat) (x y z : Int) : 0 ≤ LL a n x y z := sumN_nonneg (fun s => sq0 _) n
theorem LL_ge (n : Nat) (x y z : Int) (s : Nat) (hs : s < n) : (x * a s 0 + y * a s 1 + z * a s 2) * (x * a s 0 + y * a s 1 + z * a s 2) ≤ LL a n x y z := sumN_ge (f := fun s => (x * a s 0 + y * a s 1 + z * a s 2) * (x * a s 0 + y * a s 1 + z * a s 2)) (fun s => sq0 _) n s hs
/-- three numbers' determinant -/
def dt3 (p0 p1 p2 q0 q1 q2 r0 r1 r2 : Int) : Int := p0 * (q1 * r2 - q2 * r1) - p1 * (q0 * r2 - q2 * r0) + p2 * (q0 * r1 - q1 * r0)
def D3 (n : Nat) : Int := dt3 (gm a n 0 0) (gm a n 0 1) (gm a n 0 2) (gm a n 0 1) (gm a n 1 1) (gm a n 1 2) (gm a n 0 2) (gm a n 1 2) (gm a n 2 2)
def QQ (n : Nat) (x y z : Int) : Int := x * x * (gm a n 1 1 * gm a n 2 2 - gm a n 1 2 * gm a n 1 2) + y * y * (gm a n 0 0 * gm a n 2 2 - gm a n 0 2 * gm a n 0 2) + z * z * (gm a n 0 0 * gm a n 1 1 - gm a n 0 1 * gm a n 0 1) + 2 * (x * y * (gm a n 0 2 * gm a n 1 2 - gm a n 0 1 * gm a n 2 2)) + 2 * (x * z * (gm a n 0 1 * gm a n 1 2 - gm a n 0 2 * gm a n 1 1)) + 2 * (y * z * (gm a n 0 1 * gm a n 0 2 - gm a n 0 0 * gm a n 1 2))
theorem gm_succ (n i j : Nat) : gm a (n + 1) i j = gm a n i j + a n i * a n j := rfl
theorem D3_succ (n : Nat) : D3 a (n + 1) = D3 a n + QQ a n (a n 0) (a n 1) (a n 2) := by
  unfold D3 QQ dt3
  simp only [gm_succ]
  generalize gm a n 0 0 = u at *
  generalize gm a n 0 1 = v at *
  generalize gm a n 0 2 = w at *
  generalize gm a n 1 1 = x at *
  generalize gm a n 1 2 = y at *
  generalize gm a n 2 2 = z at *
  generalize a n 0 = p at *
  generalize a n 1 = q at *
  generalize a n 2 = r at *
  grind
theorem QQ_succ (n : Nat) (x y z : Int) : QQ a (n + 1) x y z = QQ a n x y z + LL a n (a n 1 * z - a n 2 * y) (a n 2 * x - a n 0 * z) (a n 0 * y - a n 1 * x) := by
  rw [LL_form]
  unfold QQ
  simp only [gm_succ]
  generalize gm a n 0 0 = u at *
  generalize gm a n 0 1 = v at *
  generalize gm a n 0 2 = w at *
  generalize gm a n 1 1 = x' at *
  generalize gm a n 1 2 = y' at *
  generalize gm a n 2 2 = z' at *
  generalize a n 0 = p at *
  generalize a n 1 = q at *
  generalize a n 2 = r at *
  grind
theorem QQ_pos : ∀ (n : Nat) (x y z : Int), 0 ≤ QQ a n x y z
  | 0, x, y, z => by simp [QQ, gm, sumN]
  | n + 1, x, y, z => by
    rw [QQ_succ]
    have := QQ_pos n x y z
    have := LL_pos a n (a n 1 * z - a n 2 * y) (a n 2 * x - a n 0 * z) (a n 0 * y - a n 1 * x)
    omega
theorem QQ_ge : ∀ (n : Nat) (x y z : Int) (s t : Nat), s < n → t < n → dt3 (a s 0) (a s 1) (a s 2) (a t 0) (a t 1) (a t 2) x y z * dt3 (a s 0) (a s 1) (a s 2) (a t 0) (a t 1) (a t 2) x y z ≤ QQ a n x y z
  | 0, _, _, _, s, _, hs, _ => by omega
  | n + 1, x, y, z, s, t, hs, ht => by
    rw [QQ_succ]
    have h1 := QQ_pos a n x y z
    have h2 := LL_pos a n (a n 1 * z - a n 2 * y) (a n 2 * x - a n 0 * z) (a n 0 * y - a n 1 * x)
    by_cases c1 : s = n
    · subst c1
      by_cases c2 : t = s
      · subst c2
        have e : dt3 (a t 0) (a t 1) (a t 2) (a t 0) (a t 1) (a t 2) x y z = 0 := by unfold dt3; grind
        rw [e]; omega
      · have h3 := LL_ge a s (a s 1 * z - a s 2 * y) (a s 2 * x - a s 0 * z) (a s 0 * y - a s 1 * x) t (by omega)
        have e : (a s 1 * z - a s 2 * y) * a t 0 + (a s 2 * x - a s 0 * z) * a t 1 + (a s 0 * y - a s 1 * x) * a t 2 = -dt3 (a s 0) (a s 1) (a s 2) (a t 0) (a t 1) (a t 2) x y z := by unfold dt3; grind
        rw [e, Int.neg_mul_neg] at h3
        omega
    · by_cases c2 : t = n
      · subst c2
        have h3 := LL_ge a t (a t 1 * z - a t 2 * y) (a t 2 * x - a t 0 * z) (a t 0 * y - a t 1 * x) s (by omega)
        have e : (a t 1 * z - a t 2 * y) * a s 0 + (a t 2 * x - a t 0 * z) * a s 1 + (a t 0 * y - a t 1 * x) * a s 2 = dt3 (a s 0) (a s 1) (a s 2) (a t 0) (a t 1) (a t 2) x y z := by unfold dt3; grind
        rw [e] at h3
        omega
      · have := QQ_ge n x y z s t (by omega) (by omega)
        omega
theorem D3_pos : ∀ n : Nat, 0 ≤ D3 a n
  | 0 => by simp [D3, dt3, gm, sumN]
  | n + 1 => by
    rw [D3_succ]
    have := D3_pos n
    have := QQ_pos a n (a n 0) (a n 1) (a n 2)
    omega
/-- the determinant of three rows -/
def mi (s t u : Nat) : Int := dt3 (a s 0) (a s 1) (a s 2) (a t 0) (a t 1) (a t 2) (a u 0) (a u 1) (a u 2)
theorem mi_two (s t u : Nat) (h : s = t ∨ t = u ∨ s = u) : mi a s t u = 0 := by
  unfold mi dt3
  rcases h with rfl | rfl | rfl <;> grind
theorem mi_swap (s t u : Nat) : mi a s t u * mi a s t u = mi a s u t * mi a s u t ∧ mi a s t u * mi a s t u = mi a t u s * mi a t u s := by
  have e1 : mi a s t u = -mi a s u t := by unfold mi dt3; grind
  have e2 : mi a s t u = mi a t u s := by unfold mi dt3; grind
  constructor
  · rw [e1, Int.neg_mul_neg]
  · rw [e2]
theorem D3_ge : ∀ (n s t u : Nat), s < n → t < n → u < n → mi a s t u * mi a s t u ≤ D3 a n
  | 0, s, _, _, hs, _, _ => by omega
  | n + 1, s, t, u, hs, ht, hu => by
    have h1 := D3_pos a n
    have h2 := QQ_pos a n (a n 0) (a n 1) (a n 2)
    have h3 := D3_succ a n
    by_cases two : s = t ∨ t = u ∨ s = u
    · rw [mi_two a s t u two]; omega
    · by_cases cu : u = n
      · have := QQ_ge a n (a n 0) (a n 1) (a n 2) s t (by omega) (by omega)
        subst cu
        unfold mi
        omega
      · by_cases ct : t = n
        · have := QQ_ge a n (a n 0) (a n 1) (a n 2) s u (by omega) (by omega)
          subst ct
          rw [(mi_swap a s t u).1]
          unfold mi
          omega
        · by_cases cs : s = n
          · have := QQ_ge a n (a n 0) (a n 1) (a n 2) t u (by omega) (by omega)
            subst cs
            rw [(mi_swap a s t u).2]
            unfold mi
            omega
          · have := D3_ge n s t u (by omega) (by omega) (by omega)
            omega
theorem sq_zero {x : Int} (h : x * x ≤ 0) : x = 0 := by
  have := sq0 x
  rcases Int.mul_eq_zero.1 (show x * x = 0 by omega) with h | h <;> exact h
def D2 (n : Nat) : Int := gm a n 0 0 * gm a n 1 1 - gm a n 0 1 * gm a n 1 0
theorem gm_comm (n i j : Nat) : gm a n i j = gm a n j i := by
  unfold gm
  congr 1
  funext s
  exact Int.mul_comm _ _
theorem D2_succ (n : Nat) : D2 a (n + 1) = D2 a n + LL a n (a n 1) (-(a n 0)) 0 := by
  rw [LL_form]
  unfold D2
  rw [gm_comm a (n + 1) 1 0, gm_comm a n 1 0]
  simp only [gm_succ]
  generalize gm a n 0 0 = u at *
  generalize gm a n 0 1 = v at *
  generalize gm a n 1 1 = x' at *
  generalize a n 0 = p at *
  generalize a n 1 = q at *
  grind
theorem D2_pos : ∀ n : Nat, 0 ≤ D2 a n
  | 0 => by simp [D2, gm, sumN]
  | n + 1 => by
    rw [D2_succ]
    have := D2_pos n
    have := LL_pos a n (a n 1) (-(a n 0)) 0
    omega
theorem D2_ge : ∀ (n s t : Nat), s < n → t < n → (a s 0 * a t 1 - a s 1 * a t 0) * (a s 0 * a t 1 - a s 1 * a t 0) ≤ D2 a n
  | 0, s, _, hs, _ => by omega
  | n + 1, s, t, hs, ht => by
    have h1 := D2_pos a n
    have h2 := LL_pos a n (a n 1) (-(a n 0)) 0
    have h3 := D2_succ a n
    by_cases c1 : s = n
    · by_cases c2 : t = n
      · subst c1; subst c2
        rw [show a t 0 * a t 1 - a t 1 * a t 0 = 0 by grind]; omega
      · have h4 := LL_ge a n (a n 1) (-(a n 0)) 0 t (by omega)
        subst c1
        rw [show a s 1 * a t 0 + -a s 0 * a t 1 + 0 * a t 2 = -(a s 0 * a t 1 - a s 1 * a t 0) by grind, Int.neg_mul_neg] at h4
        omega
    · by_cases c2 : t = n
      · have h4 := LL_ge a n (a n 1) (-(a n 0)) 0 s (by omega)
        subst c2
        rw [show a t 1 * a s 0 + -a t 0 * a s 1 + 0 * a s 2 = a s 0 * a t 1 - a s 1 * a t 0 by grind] at h4
        omega
      · have := D2_ge n s t (by omega) (by omega)
        omega
/-- a determinant of k columns -/
def dP (k : Nat) (t : Nat → Nat → Int) : Int := if k = 1 then t 0 0 else if k = 2 then t 0 0 * t 1 1 - t 0 1 * t 1 0 else dt3 (t 0 0) (t 0 1) (t 0 2) (t 1 0) (t 1 1) (t 1 2) (t 2 0) (t 2 1) (t 2 2)
def den (n k : Nat) : Int := dP k (gm a n)
def num (n k c : Nat) : Int := dP k (fun i j => if j = c then bv a h n i else gm a n i j)
theorem cramer {n k : Nat} (hk : k = 1 ∨ k = 2 ∨ k = 3) {c : Nat} (hc : c < k) : den a n k * bv a h n c = sumN (fun j => num a h n k j * gm a n j c) k := by
  have e1 := gm_comm a n 1 0
  have e2 := gm_comm a n 2 0
  have e3 := gm_comm a n 2 1
  rcases hk with rfl | rfl | rfl
  · obtain rfl : c = 0 := by omega
    simp [den, num, dP, sumN]
    grind
  · unfold den num dP
    simp only [sumN]
    rw [e1]
    rcases (show c = 0 ∨ c = 1 by omega) with rfl | rfl
    · simp
      generalize gm a n 0 0 = u at *
      generalize gm a n 0 1 = v at *
      generalize gm a n 1 1 = x' at *
      grind
    · simp
      generalize gm a n 0 0 = u at *
      generalize gm a n 0 1 = v at *
      generalize gm a n 1 1 = x' at *
      grind
  · unfold den num dP dt3
    simp only [sumN]
    rw [e1, e2, e3]
    rcases (show c = 0 ∨ c = 1 ∨ c = 2 by omega) with rfl | rfl | rfl
    · simp
      generalize gm a n 0 0 = u at *
      generalize gm a n 0 1 = v at *
      generalize gm a n 0 2 = w at *
      generalize gm a n 1 1 = x' at *
      generalize gm a n 1 2 = y' at *
      generalize gm a n 2 2 = z' at *
      grind
    · simp
      generalize gm a n 0 0 = u at *
      generalize gm a n 0 1 = v at *
      generalize gm a n 0 2 = w at *
      generalize gm a n 1 1 = x' at *
      generalize gm a n 1 2 = y' at *
      generalize gm a n 2 2 = z' at *
      grind
    · simp
      generalize gm a n 0 0 = u at *
      generalize gm a n 0 1 = v at *
      generalize gm a n 0 2 = w at *
      generalize gm a n 1 1 = x' at *
      generalize gm a n 1 2 = y' at *
      generalize gm a n 2 2 = z' at *
      grind
theorem sumN_mul (f : Nat → Int) (x : Int) : ∀ k, sumN f k * x = sumN (fun j => f j * x) k
  | 0 => by simp [sumN]
  | k + 1 => by simp only [sumN]; rw [Int.add_mul, sumN_mul f x k]
theorem sumN_add (f g : Nat → Int) : ∀ k, sumN f k + sumN g k = sumN (fun j => f j + g j) k
  | 0 => by simp [sumN]
  | k + 1 => by simp only [sumN]; rw [← sumN_add f g k]; omega
/-- what a row differs by -/
def df (D : Int) (N : Nat → Int) (k s : Nat) : Int := D * h s - sumN (fun j => a s j * N j) k
theorem ortho (D : Int) (N : Nat → Int) (k c : Nat) : ∀ n, sumN (fun s => df a h D N k s * a s c) n = D * bv a h n c - sumN (fun j => N j * gm a n j c) k
  | 0 => by
    have : ∀ k, sumN (fun j => N j * gm a 0 j c) k = 0 := by
      intro k
      induction k with
      | zero => rfl
      | succ k ih => simp only [sumN]; rw [ih]; simp [gm, sumN]
    rw [this]; simp [bv, sumN]
  | n + 1 => by
    have ih := ortho D N k c n
    have e : sumN (fun j => N j * gm a (n + 1) j c) k = sumN (fun j => N j * gm a n j c) k + sumN (fun j => a n j * N j) k * a n c := by
      rw [sumN_mul, sumN_add]
      congr 1
      funext j
      rw [gm_succ]
      grind
    rw [e]
    show sumN _ n + df a h D N k n * a n c = D * (bv a h n c + a n c * h n) - _
    rw [ih]
    unfold df
    grind
theorem left_eq (D : Int) (N : Nat → Int) (k : Nat) : ∀ n, sumN (fun s => df a h D N k s * h s) n = sumN (fun s => D * h s * h s) n - sumN (fun j => N j * bv a h n j) k
  | 0 => by
    have : ∀ k, sumN (fun j => N j * bv a h 0 j) k = 0 := by
      intro k
      induction k with
      | zero => rfl
      | succ k ih => simp only [sumN]; rw [ih]; simp [bv, sumN]
    rw [this]; simp [sumN]
  | n + 1 => by
    have ih := left_eq D N k n
    have e : sumN (fun j => N j * bv a h (n + 1) j) k = sumN (fun j => N j * bv a h n j) k + sumN (fun j => a n j * N j) k * h n := by
      rw [sumN_mul, sumN_add]
      congr 1
      funext j
      show N j * (bv a h n j + a n j * h n) = _
      grind
    rw [e]
    show sumN _ n + df a h D N k n * h n = sumN _ n + D * h n * h n - _
    rw [ih]
    unfold df
    grind
end
def bd (x : Int) (B : Nat) : Prop := x.natAbs ≤ B
theorem bd_mul {x y : Int} {X Y : Nat} (h : bd x X) (k : bd y Y) : bd (x * y) (X * Y) := by
  unfold bd at *; rw [Int.natAbs_mul]; exact Nat.mul_le_mul h k
theorem bd_sub {x y : Int} {X Y : Nat} (h : bd x X) (k : bd y Y) : bd (x - y) (X + Y) := by unfold bd at *; omega
theorem bd_add {x y : Int} {X Y : Nat} (h : bd x X) (k : bd y Y) : bd (x + y) (X + Y) := by unfold bd at *; omega
theorem bd_le {x : Int} {X Y : Nat} (h : bd x X) (k : X ≤ Y) : bd x Y := Nat.le_trans h k
theorem bd_of {x : Int} {X : Nat} (h0 : -(X : Int) ≤ x) (h1 : x ≤ X) : bd x X := by unfold bd; omega
theorem wb {x : Int} {B : Nat} (h : bd x B) (k : B ≤ 9223372036854775807) : wrap64 x = x := Go.Proofs.Ytjbiebobhnbajaa.Base.w64 (by unfold bd at h; omega) (by unfold bd at h; omega)
theorem bd_sumN {f : Nat → Int} {B : Nat} : ∀ n, (∀ s, s < n → bd (f s) B) → bd (sumN f n) (n * B)
  | 0, _ => by simp [sumN, bd]
  | n + 1, h => by
    have a := bd_sumN n (fun s hs => h s (by omega))
    rw [Nat.succ_mul]
    exact bd_add a (h n (by omega))
end Go.Proofs.Ytjbiebobhnbajaa.GauA
