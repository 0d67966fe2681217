/- series.Narrow succeeds, where the undecided zone is narrow; what it tells, if the closure tells what s says between A0 and B0. -/
import Derived.Test.YtmahlfjnejbcnaaTopSeasonsn19
import Derived.Test.YtmahlfjnejbcnaaTopSeasonsn10
namespace Go.Proofs.Ytmahlfjnejbcnaa.NarC
open Go Go.RowKit YtmahlfjnejbcnaaW.PrintWords YtmahlfjnejbcnaaW.PrintLast Base Nar84
set_option linter.unusedVariables false
set_option linter.unusedSimpArgs false
theorem iw (x : Int) : IntKind.i64.wrap x = wrap64 x := i64_w x
theorem half {a p : Int} (h : 0 ≤ p - a) (h1 : -400000000000000 ≤ a) (h2 : p ≤ 400000000000000) :
  IntKind.i64.wrap (p - a) = p - a ∧ IntKind.i64.wrap (a + IntKind.i64.wrap ((IntKind.i64.wrap (p - a)).tdiv 2)) = a + (p - a) / 2 := by
 have e : IntKind.i64.wrap (p - a) = p - a := by rw [iw, w64 (by omega) (by omega)]
 refine ⟨e, ?_⟩
 rw [e, Int.tdiv_eq_ediv_of_nonneg h, iw, iw, w64 (x := (p - a) / 2) (by omega) (by omega), w64 (by omega) (by omega)]
section
variable {s : Nat → Int → Option Int} {σ : Int → Int} {A0 B0 : Int} (hA : -400000000000000 ≤ A0) (hB : B0 ≤ 400000000000000) (H : ∀ t, A0 ≤ t → t ≤ B0 → Ev (fun k => s k t) (σ t))
include hA hB H
theorem lo_tells : ∀ (n : Nat) (a p : Int), (p - a).toNat ≤ n → a ≤ p → A0 ≤ a → p ≤ B0 → σ a < 0 → ¬ σ p < 0 → ∃ a', a ≤ a' ∧ a' ≤ p ∧ σ a' < 0 ∧ (∃ p', ¬ σ p' < 0 ∧ p' - a' ≤ 1 ∧ A0 ≤ p' ∧ p' ≤ B0) ∧ ∀ (R : Type) (κ : Nat → Int → Option R) (r : R), Ev (fun k => κ k a') r → ∃ K, ∀ k j, K ≤ k → K ≤ j → lo (s k) j a p (κ k) = some r := by
 intro n
 induction n with
 | zero =>
  intro a p hn hap ha hp hs ho
  refine ⟨a, Int.le_refl _, hap, hs, ⟨p, ho, by omega, by omega, by omega⟩, fun R κ r hk => ?_⟩
  obtain ⟨K, hK⟩ := hk
  refine ⟨K + 1, fun k j h1 h2 => ?_⟩
  obtain ⟨j, rfl⟩ : ∃ q, j = q + 1 := ⟨j - 1, by omega⟩
  rw [lo, Sx.oif_eq, (half (by omega) (by omega) (by omega)).1, if_neg (by simp; omega)]
  exact hK k (by omega)
 | succ n ih =>
  intro a p hn hap ha hp hs ho
  obtain ⟨e1, e2⟩ := half (a := a) (p := p) (by omega) (by omega) (by omega)
  by_cases c : p - a > 1
  ·obtain ⟨Ks, hKs⟩ := H (a + (p - a) / 2) (by omega) (by omega)
   replace hKs : ∀ k, Ks ≤ k → s k (a + (p - a) / 2) = some (σ (a + (p - a) / 2)) := hKs
   by_cases c2 : σ (a + (p - a) / 2) < 0
   ·obtain ⟨a', g1, g2, g3, g0, g4⟩ := ih (a + (p - a) / 2) p (by omega) (by omega) (by omega) hp c2 ho
    refine ⟨a', by omega, g2, g3, g0, fun R κ r hk => ?_⟩
    obtain ⟨K, hK⟩ := g4 R κ r hk
    refine ⟨K + Ks + 1, fun k j h1 h2 => ?_⟩
    obtain ⟨j, rfl⟩ : ∃ q, j = q + 1 := ⟨j - 1, by omega⟩
    rw [lo, Sx.oif_eq, Sx.ob_eq, e2, e1, if_pos (by simp; omega), hKs k (by omega), Option.bind_some, Sx.oif_eq, if_pos (by simpa using c2)]
    exact hK k j (by omega) (by omega)
   ·obtain ⟨a', g1, g2, g3, g0, g4⟩ := ih a (a + (p - a) / 2) (by omega) (by omega) ha (by omega) hs c2
    refine ⟨a', g1, by omega, g3, g0, fun R κ r hk => ?_⟩
    obtain ⟨K, hK⟩ := g4 R κ r hk
    refine ⟨K + Ks + 1, fun k j h1 h2 => ?_⟩
    obtain ⟨j, rfl⟩ : ∃ q, j = q + 1 := ⟨j - 1, by omega⟩
    rw [lo, Sx.oif_eq, Sx.ob_eq, e2, e1, if_pos (by simp; omega), hKs k (by omega), Option.bind_some, Sx.oif_eq, if_neg (by simpa using c2)]
    exact hK k j (by omega) (by omega)
  ·refine ⟨a, Int.le_refl _, hap, hs, ⟨p, ho, by omega, by omega, by omega⟩, fun R κ r hk => ?_⟩
   obtain ⟨K, hK⟩ := hk
   refine ⟨K + 1, fun k j h1 h2 => ?_⟩
   obtain ⟨j, rfl⟩ : ∃ q, j = q + 1 := ⟨j - 1, by omega⟩
   rw [lo, Sx.oif_eq, e1, if_neg (by simp; omega)]
   exact hK k (by omega)
theorem hi_tells : ∀ (n : Nat) (b p : Int), (b - p).toNat ≤ n → p ≤ b → A0 ≤ p → b ≤ B0 → 0 < σ b → ¬ σ p > 0 → ∃ b', p ≤ b' ∧ b' ≤ b ∧ 0 < σ b' ∧ (∃ q', ¬ σ q' > 0 ∧ b' - q' ≤ 1 ∧ A0 ≤ q' ∧ q' ≤ B0) ∧ ∀ (R : Type) (κ : Nat → Int → Option R) (r : R), Ev (fun k => κ k b') r → ∃ K, ∀ k j, K ≤ k → K ≤ j → hi (s k) j b p (κ k) = some r := by
 intro n
 induction n with
 | zero =>
  intro b p hn hap ha hp hs ho
  refine ⟨b, hap, Int.le_refl _, hs, ⟨p, ho, by omega, by omega, by omega⟩, fun R κ r hk => ?_⟩
  obtain ⟨K, hK⟩ := hk
  refine ⟨K + 1, fun k j h1 h2 => ?_⟩
  obtain ⟨j, rfl⟩ : ∃ q, j = q + 1 := ⟨j - 1, by omega⟩
  rw [hi, Sx.oif_eq, (half (a := p) (p := b) (by omega) (by omega) (by omega)).1, if_neg (by simp; omega)]
  exact hK k (by omega)
 | succ n ih =>
  intro b p hn hap ha hp hs ho
  obtain ⟨e1, e2⟩ := half (a := p) (p := b) (by omega) (by omega) (by omega)
  by_cases c : b - p > 1
  ·obtain ⟨Ks, hKs⟩ := H (p + (b - p) / 2) (by omega) (by omega)
   replace hKs : ∀ k, Ks ≤ k → s k (p + (b - p) / 2) = some (σ (p + (b - p) / 2)) := hKs
   by_cases c2 : σ (p + (b - p) / 2) > 0
   ·obtain ⟨b', g1, g2, g3, g0, g4⟩ := ih (p + (b - p) / 2) p (by omega) (by omega) ha (by omega) c2 ho
    refine ⟨b', g1, by omega, g3, g0, fun R κ r hk => ?_⟩
    obtain ⟨K, hK⟩ := g4 R κ r hk
    refine ⟨K + Ks + 1, fun k j h1 h2 => ?_⟩
    obtain ⟨j, rfl⟩ : ∃ q, j = q + 1 := ⟨j - 1, by omega⟩
    rw [hi, Sx.oif_eq, Sx.ob_eq, e2, e1, if_pos (by simp; omega), hKs k (by omega), Option.bind_some, Sx.oif_eq, if_pos (by simpa using c2)]
    exact hK k j (by omega) (by omega)
   ·obtain ⟨b', g1, g2, g3, g0, g4⟩ := ih b (p + (b - p) / 2) (by omega) (by omega) (by omega) hp hs c2
    refine ⟨b', by omega, g2, g3, g0, fun R κ r hk => ?_⟩
    obtain ⟨K, hK⟩ := g4 R κ r hk
    refine ⟨K + Ks + 1, fun k j h1 h2 => ?_⟩
    obtain ⟨j, rfl⟩ : ∃ q, j = q + 1 := ⟨j - 1, by omega⟩
    rw [hi, Sx.oif_eq, Sx.ob_eq, e2, e1, if_pos (by simp; omega), hKs k (by omega), Option.bind_some, Sx.oif_eq, if_neg (by simpa using c2)]
    exact hK k j (by omega) (by omega)
  ·refine ⟨b, hap, Int.le_refl _, hs, ⟨p, ho, by omega, by omega, by omega⟩, fun R κ r hk => ?_⟩
   obtain ⟨K, hK⟩ := hk
   refine ⟨K + 1, fun k j h1 h2 => ?_⟩
   obtain ⟨j, rfl⟩ : ∃ q, j = q + 1 := ⟨j - 1, by omega⟩
   rw [hi, Sx.oif_eq, e1, if_neg (by simp; omega)]
   exact hK k (by omega)
theorem main_tells {wd : Int} (hw : 1 ≤ wd) : ∀ (n : Nat) (a b : Int), (b - a).toNat ≤ n → a ≤ b → A0 ≤ a → b ≤ B0 → σ a < 0 → 0 < σ b → ∃ a' b', a ≤ a' ∧ a' ≤ b' ∧ b' ≤ b ∧ σ a' < 0 ∧ 0 < σ b' ∧ (b' - a' ≤ wd ∨ ∃ p' q', ¬ σ p' < 0 ∧ ¬ σ q' > 0 ∧ b' - a' ≤ q' - p' + 2 ∧ A0 ≤ p' ∧ p' ≤ B0 ∧ A0 ≤ q' ∧ q' ≤ B0) ∧
  ∀ (R : Type) (κ : Nat → Int → Int → Option R) (r : R), Ev (fun k => κ k a' b') r → ∃ K, ∀ k q j, K ≤ k → K ≤ q → K ≤ j → main (s k) q wd j a b (κ k) = some r := by
 intro n
 induction n with
 | zero =>
  intro a b hn hab ha hb hs1 hs2
  refine ⟨a, b, Int.le_refl _, hab, Int.le_refl _, hs1, hs2, Or.inl (by omega), fun R κ r hk => ?_⟩
  obtain ⟨K, hK⟩ := hk
  refine ⟨K + 1, fun k q j h1 h2 h3 => ?_⟩
  obtain ⟨j, rfl⟩ : ∃ q, j = q + 1 := ⟨j - 1, by omega⟩
  rw [main, Sx.oif_eq, (half (a := a) (p := b) (by omega) (by omega) (by omega)).1, if_neg (by simp; omega)]
  exact hK k (by omega)
 | succ n ih =>
  intro a b hn hab ha hb hs1 hs2
  obtain ⟨e1, e2⟩ := half (a := a) (p := b) (by omega) (by omega) (by omega)
  by_cases c : b - a > wd
  ·obtain ⟨Ks, hKs⟩ := H (a + (b - a) / 2) (by omega) (by omega)
   replace hKs : ∀ k, Ks ≤ k → s k (a + (b - a) / 2) = some (σ (a + (b - a) / 2)) := hKs
   by_cases c2 : σ (a + (b - a) / 2) < 0
   ·obtain ⟨a', b', g1, g2, g3, g4, g5, g0, g6⟩ := ih (a + (b - a) / 2) b (by omega) (by omega) (by omega) hb c2 hs2
    refine ⟨a', b', by omega, g2, g3, g4, g5, g0, fun R κ r hk => ?_⟩
    obtain ⟨K, hK⟩ := g6 R κ r hk
    refine ⟨K + Ks + 1, fun k q j h1 h2 h3 => ?_⟩
    obtain ⟨j, rfl⟩ : ∃ q, j = q + 1 := ⟨j - 1, by omega⟩
    rw [main, Sx.oif_eq, Sx.ob_eq, e2, e1, if_pos (by simpa using c), hKs k (by omega), Option.bind_some, Sx.oif_eq, if_pos (by simpa using c2)]
    exact hK k q j (by omega) (by omega) (by omega)
   ·by_cases c3 : σ (a + (b - a) / 2) > 0
    ·obtain ⟨a', b', g1, g2, g3, g4, g5, g0, g6⟩ := ih a (a + (b - a) / 2) (by omega) (by omega) ha (by omega) hs1 c3
     refine ⟨a', b', g1, g2, by omega, g4, g5, g0, fun R κ r hk => ?_⟩
     obtain ⟨K, hK⟩ := g6 R κ r hk
     refine ⟨K + Ks + 1, fun k q j h1 h2 h3 => ?_⟩
     obtain ⟨j, rfl⟩ : ∃ q, j = q + 1 := ⟨j - 1, by omega⟩
     rw [main, Sx.oif_eq, Sx.ob_eq, e2, e1, if_pos (by simpa using c), hKs k (by omega), Option.bind_some, Sx.oif_eq, if_neg (by simpa using c2), Sx.oif_eq, if_pos (by simpa using c3)]
     exact hK k q j (by omega) (by omega) (by omega)
    ·obtain ⟨a', g1, g2, g3, ⟨p', v1, v2, v3, v4⟩, g4⟩ := lo_tells hA hB H _ a (a + (b - a) / 2) (Nat.le_refl _) (by omega) ha (by omega) hs1 c2
     obtain ⟨b', k1, k2, k3, ⟨q', w1, w2, w3, w4⟩, k4⟩ := hi_tells hA hB H _ b (a + (b - a) / 2) (Nat.le_refl _) (by omega) (by omega) hb hs2 c3
     refine ⟨a', b', g1, by omega, k2, g3, k3, Or.inr ⟨p', q', v1, w1, by omega, v3, v4, w3, w4⟩, fun R κ r hk => ?_⟩
     obtain ⟨K1, hK1⟩ := k4 R (fun k y => κ k a' y) r hk
     obtain ⟨K2, hK2⟩ := g4 R (fun k y => hi (s k) k b (a + (b - a) / 2) fun z => κ k y z) r ⟨K1, fun k hk => hK1 k k hk hk⟩
     have hq : ∃ K3, ∀ k q, K3 ≤ k → K3 ≤ q → ∀ j, K3 ≤ j → lo (s k) j a (a + (b - a) / 2) (fun y => hi (s k) q b (a + (b - a) / 2) fun z => κ k y z) = some r := by
      have g5 : ∃ K3, ∀ k j, K3 ≤ k → K3 ≤ j → ∀ (κ' : Int → Option R), κ' a' = some r → lo (s k) j a (a + (b - a) / 2) κ' = some r := by
       obtain ⟨K4, hK4⟩ := g4 Unit (fun _ y => if y = a' then some () else none) () ⟨0, fun k _ => if_pos rfl⟩
       refine ⟨K4, fun k j h1 h2 κ' hκ => ?_⟩
       have h3 := hK4 k j h1 h2
       have nat : ∀ (j : Nat) (a p : Int), lo (s k) j a p (fun y => if y = a' then some () else none) = some () → lo (s k) j a p κ' = some r := by
        intro j
        induction j with
        | zero => intro a p h; simp [lo] at h
        | succ j ihj =>
         intro a p h
         rw [lo, Sx.oif_eq, Sx.ob_eq] at h ⊢
         split at h
         ·rename_i hc
          rw [if_pos hc]
          cases hv : s k (IntKind.i64.wrap (a + IntKind.i64.wrap ((IntKind.i64.wrap (p - a)).tdiv 2))) with
          | none => rw [hv] at h; simp at h
          | some v =>
           rw [hv, Option.bind_some, Sx.oif_eq] at h
           rw [Option.bind_some, Sx.oif_eq]
           split at h
           ·rename_i hc2; rw [if_pos hc2]; exact ihj _ _ h
           ·rename_i hc2; rw [if_neg hc2]; exact ihj _ _ h
         ·rename_i hc
          rw [if_neg hc]
          split at h
          ·rename_i he; rw [he]; exact hκ
          ·cases h
       exact nat j a _ h3
      obtain ⟨K3, hK3⟩ := g5
      exact ⟨K1 + K3, fun k q h1 h2 j h3 => hK3 k j (by omega) (by omega) _ (hK1 k q (by omega) (by omega))⟩
     obtain ⟨K3, hK3⟩ := hq
     refine ⟨K3 + Ks + 1, fun k q j h1 h2 h3 => ?_⟩
     obtain ⟨j, rfl⟩ : ∃ q, j = q + 1 := ⟨j - 1, by omega⟩
     rw [main, Sx.oif_eq, Sx.ob_eq, e2, e1, if_pos (by simpa using c), hKs k (by omega), Option.bind_some, Sx.oif_eq, if_neg (by simpa using c2), Sx.oif_eq, if_neg (by simpa using c3)]
     exact hK3 k q (by omega) (by omega) q (by omega)
  ·refine ⟨a, b, Int.le_refl _, hab, Int.le_refl _, hs1, hs2, Or.inl (by omega), fun R κ r hk => ?_⟩
   obtain ⟨K, hK⟩ := hk
   refine ⟨K + 1, fun k q j h1 h2 h3 => ?_⟩
   obtain ⟨j, rfl⟩ : ∃ q, j = q + 1 := ⟨j - 1, by omega⟩
   rw [main, Sx.oif_eq, e1, if_neg (by simpa using c)]
   exact hK k (by omega)
theorem nar_ok {wd Z a b : Int} (hw : 1 ≤ wd) (hab : a ≤ b) (ha : A0 ≤ a) (hb : b ≤ B0) (h1 : σ a < 0) (h2 : 0 < σ b) (hZ : Z + 2 ≤ wd) (zone : ∀ p q, A0 ≤ p → p ≤ B0 → A0 ≤ q → q ≤ B0 → ¬ σ p < 0 → ¬ σ q > 0 → q - p ≤ Z) : ∃ x y, Ev (fun k => f (s k) k a b wd) (x, y, 0) ∧
  a ≤ x ∧ x ≤ y ∧ y ≤ b ∧ y - x ≤ wd ∧ σ x < 0 ∧ 0 < σ y := by
 obtain ⟨a', b', g1, g2, g3, g4, g5, g0, g6⟩ := main_tells hA hB H hw _ a b (Nat.le_refl _) hab ha hb h1 h2
 obtain ⟨e1, _⟩ := half (a := a') (p := b') (by omega) (by omega) (by omega)
 have c : b' - a' ≤ wd := by
  rcases g0 with g0 | ⟨p', q', v1, w1, v2, v3, v4, w3, w4⟩
  ·exact g0
  ·have := zone p' q' v3 v4 w3 w4 v1 w1
   omega
 obtain ⟨K, hK⟩ := g6 _ (fun _ a b => Sx.oif (decide (IntKind.i64.wrap (b - a) > wd) = true) (some ((0 : Int), (0 : Int), (11 : Int))) (some (a, b, 0))) (a', b', 0) ⟨0, fun k _ => by rw [Sx.oif_eq, e1, if_neg (by simpa using c)]⟩
 exact ⟨a', b', ⟨K, fun k hk => hK k k k hk hk hk⟩, g1, g2, g3, c, g4, g5⟩
end
end Go.Proofs.Ytmahlfjnejbcnaa.NarC
