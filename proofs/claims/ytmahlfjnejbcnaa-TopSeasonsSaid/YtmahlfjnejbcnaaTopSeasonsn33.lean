/- The latitude of the moon is small. -/
import Derived.Test.YtmahlfjnejbcnaaTopSeasonsn32
namespace Go.Proofs.Ytmahlfjnejbcnaa.AmpT
open Go.RowKit YtmahlfjnejbcnaaW.PrintWords YtmahlfjnejbcnaaW.PrintLast YtmahlfjnejbcnaaW.PrintMore Opn PAll Base Over Units Args SumsT Vals
set_option linter.unusedVariables false
set_option linter.unusedSimpArgs false
def ab (a : Int) : Int := if a < 0 then -a else a
def ams : List S71 → Int
 | [] => 0
 | x :: r => ab x.f0 + ams r
theorem ab_mul {a s B : Int} (h1 : -B ≤ s) (h2 : s ≤ B) : -(ab a * B) ≤ a * s ∧ a * s ≤ ab a * B := by
 unfold ab
 by_cases c : a < 0
 ·rw [if_pos c]
  have k1 := Int.mul_le_mul_of_nonneg_left h1 (show 0 ≤ -a by omega)
  have k2 := Int.mul_le_mul_of_nonneg_left h2 (show 0 ≤ -a by omega)
  rw [Int.mul_neg] at k1
  rw [Int.neg_mul] at k1 k2 ⊢
  rw [Int.neg_mul] at k1 k2
  constructor <;> omega
 ·rw [if_neg c]
  have k1 := Int.mul_le_mul_of_nonneg_left h1 (show 0 ≤ a by omega)
  have k2 := Int.mul_le_mul_of_nonneg_left h2 (show 0 ≤ a by omega)
  rw [Int.mul_neg] at k1
  constructor <;> omega
theorem rsum_small {t : Int} (t1 : -345600000000000 ≤ t) (t2 : t < 345600086400000) (l : List S71) (hl : l.length ≤ 40) (hg : ∀ x ∈ l, ¬ bad x) : ∀ (r : List S71) (i : Int), 0 ≤ i → l.drop i.toNat = r → ∃ dp : Int, -(ams r * 1048576 + 4 * (r.length : Int)) ≤ dp ∧ dp ≤ ams r * 1048576 + 4 * (r.length : Int) ∧
  ∀ n, -45100000000000000 + 1100000000000000 * (r.length : Int) ≤ n → n ≤ 45100000000000000 - 1100000000000000 * (r.length : Int) → Ev (fun k => ephemerisref2_Sum.l0 k t n l (l.length : Int) i) (n + dp) := by
 intro r
 induction r with
 | nil =>
  intro i h0 hd
  have hle := drop_nil h0 hd
  refine ⟨0, by simp [ams], by simp [ams], fun n _ _ => ev_some 1 fun k => ?_⟩
  rw [ephemerisref2_Sum.l0, if_neg (by omega), Int.add_zero]
 | cons s r ih =>
  intro i h0 hd
  obtain ⟨hlt, hs, ht⟩ := drop_cons z71 h0 hd
  have hs' : rd_T71 l i = s := hs
  have a9 : wrap64 (i + 1) = i + 1 := w64 (by omega) (by omega)
  have hb := hg s (drop_mem hd)
  obtain ⟨g0, g1⟩ := arg_bound s.f2 t
  have hf : 0 ≤ s.f1 ∧ s.f1 < 1000000000 ∧ -1000000000 ≤ s.f0 ∧ s.f0 ≤ 1000000000 ∧ -4000000000000000 ≤ s.f2 ∧ s.f2 ≤ 4000000000000000 := by unfold bad at hb; omega
  have e2 := arg_ev (r := s.f2) (by omega) (by omega) t1 t2
  obtain ⟨sn, c, e4, ⟨s1, s2⟩, _, ⟨s5, s6⟩, _⟩ := sincos_ev2 (a := arg s.f2 t + s.f1 * 1000000) (by omega)
  obtain ⟨p, e5, p1, p2, p3, p4⟩ := part_any (a := s.f0) (s := sn) (by omega) (by omega) s5 s6
  obtain ⟨m1, m2⟩ := ab_mul (a := s.f0) s5 s6
  have ab1 : 0 ≤ ab s.f0 ∧ ab s.f0 ≤ 1000000000 := by unfold ab; split <;> omega
  have pb : -(ab s.f0 * 1048576 + 4) ≤ p ∧ p ≤ ab s.f0 * 1048576 + 4 := by omega
  obtain ⟨dp, d1, d2, run⟩ := ih (i + 1) (by omega) ht
  have hlen : r.length ≤ 39 := by
   have := congrArg List.length hd
   rw [List.length_drop, List.length_cons] at this
   omega
  have hlc : ((s :: r).length : Int) = (r.length : Int) + 1 := by rw [List.length_cons]; push_cast; rfl
  rw [hlc]
  have hq : ams (s :: r) = ab s.f0 + ams r := rfl
  rw [hq]
  refine ⟨p + dp, by omega, by omega, fun n b5 b6 => ?_⟩
  have r2 := run (n + p) (by omega) (by omega)
  rw [Int.add_assoc] at r2
  refine ev_step 1 (fun k => by rw [ephemerisref2_Sum.l0, if_pos hlt, if_pos h0, if_pos hlt, hs', a9]) ?_
  refine ev_bind e2 ?_
  rw [w64 (x := s.f1 * 1000000) (by omega) (by omega), w64 (x := arg s.f2 t + s.f1 * 1000000) (by omega) (by omega)]
  refine ev_bind e4 ?_
  exact Ev.congr (fun k => by rw [e5, Option.bind_some, w64 (x := n + p) (by omega) (by omega)]) r2
theorem ev_uniq {α : Type} {f : Nat → Option α} {a b : α} (h : Ev f a) (g : Ev f b) : a = b := by
 obtain ⟨K, hK⟩ := h
 obtain ⟨K', hK'⟩ := g
 have h1 := hK (max K K') (by omega)
 have h2 := hK' (max K K') (by omega)
 rw [h1] at h2
 exact Option.some.inj h2
end Go.Proofs.Ytmahlfjnejbcnaa.AmpT
