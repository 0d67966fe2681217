/- Written by a program of this session out of the translation. -/
import Derived.Test.YtfbjpdiaicaagaaTopContradictn3
namespace Go.Proofs.Ytfbjpdiaicaagaa.PAll
open Go.RowKit Go.Proofs.YtfbjpdiaicaagaaW.PrintWords Go.Proofs.YtfbjpdiaicaagaaW.PrintLast Go.Proofs.YtfbjpdiaicaagaaW.PrintMore Go.Proofs.Ytfbjpdiaicaagaa.More2
attribute [local go_sem] max2_int min2_int max_two min_two max_three min_three max_four min_four tdiv2e18_ tdiv1e18_ cellSS_  -- for this text's walks alone
set_option linter.unusedVariables false
set_option linter.unusedSimpArgs false
theorem Kd.R_slice_ {α : Type} {d : Kd α} {e : Nat} {w : World} {base : Nat} {ok : Nat → Prop} {v : Value} {xs : List α} (h : Kd.R d e w base ok v xs) : ∃ A n c, v = .slice A n c := by
  obtain ⟨_, inner, ho, _⟩ := h
  rcases ho.2 with ⟨rfl, _⟩ | ⟨g, cap, cur, rfl, _⟩
  · exact ⟨_, _, _, rfl⟩
  · exact ⟨_, _, _, rfl⟩
mutual
def chron_most.l0 : Nat → Int → List (S43) → List (List Int) → Int → Int → Option ((List (List Int)) × Bool)
  | 0, _, _, _, _, _ => none
  | k + 1, x0, x1, x6, x18, x19 => if x19 < x18 then (if 0 ≤ x0 then (if (x0 : Int).toNat ≤ 35184372088832 then (if 0 ≤ x19 then (if x19 < (x6.length : Int) then ((some (x6.set (x19 : Int).toNat (List.replicate (x0 : Int).toNat 0) : List (List Int))).bind fun y109 => (chron_most.l1 k x0 x1 y109 x19 x18 x19 ((rd_L2 y109 x19).length : Int) 0)) else (none)) else (none)) else (none)) else (none)) else (chron_most.l2 k x0 x6 x1 (x1.length : Int) 0)
def chron_most.l1 : Nat → Int → List (S43) → List (List Int) → Int → Int → Int → Int → Int → Option ((List (List Int)) × Bool)
  | 0, _, _, _, _, _, _, _, _ => none
  | k + 1, x0, x1, x6, x7, x18, x19, x31, x32 => if x32 < x31 then (if x7 = x32 then (chron_most.l1 k x0 x1 x6 x7 x18 x19 x31 (wrap64 (x32 + 1))) else (if 0 ≤ x7 then (if x7 < (x6.length : Int) then (if 0 ≤ x32 then (if x32 < ((rd_L2 x6 x7).length : Int) then (chron_most.l1 k x0 x1 (x6.set (x7 : Int).toNat ((rd_L2 x6 x7).set (x32 : Int).toNat 1000000000)) x7 x18 x19 x31 (wrap64 (x32 + 1))) else (none)) else (none)) else (none)) else (none))) else (chron_most.l0 k x0 x1 x6 x18 (wrap64 (x19 + 1)))
def chron_most.l2 : Nat → Int → List (List Int) → List (S43) → Int → Int → Option ((List (List Int)) × Bool)
  | 0, _, _, _, _, _ => none
  | k + 1, x0, x6, x46, x47, x48 => if x48 < x47 then (if 0 ≤ x48 then (if x48 < (x46.length : Int) then (if 0 ≤ ((rd_T43 x46 x48).f0) then (if ((rd_T43 x46 x48).f0) < (x6.length : Int) then (if 0 ≤ ((rd_T43 x46 x48).f1) then (if ((rd_T43 x46 x48).f1) < ((rd_L2 x6 ((rd_T43 x46 x48).f0)).length : Int) then ((some (x6.set (((rd_T43 x46 x48).f0) : Int).toNat ((rd_L2 x6 ((rd_T43 x46 x48).f0)).set (((rd_T43 x46 x48).f1) : Int).toNat (mn (rd (rd_L2 x6 ((rd_T43 x46 x48).f0)) ((rd_T43 x46 x48).f1)) ((rd_T43 x46 x48).f3))) : List (List Int))).bind fun y122 => (if ((rd_T43 x46 x48).f1) < (x6.length : Int) then (if ((rd_T43 x46 x48).f0) < ((rd_L2 y122 ((rd_T43 x46 x48).f1)).length : Int) then (chron_most.l2 k x0 (y122.set (((rd_T43 x46 x48).f1) : Int).toNat ((rd_L2 y122 ((rd_T43 x46 x48).f1)).set (((rd_T43 x46 x48).f0) : Int).toNat (mn (rd (rd_L2 y122 ((rd_T43 x46 x48).f1)) ((rd_T43 x46 x48).f0)) (wrap64 (-((rd_T43 x46 x48).f2)))))) x46 x47 (wrap64 (x48 + 1))) else (none)) else (none))) else (none)) else (none)) else (none)) else (none)) else (none)) else (none)) else (chron_most.l3 k x0 x6 x0 0)
def chron_most.l3 : Nat → Int → List (List Int) → Int → Int → Option ((List (List Int)) × Bool)
  | 0, _, _, _, _ => none
  | k + 1, x0, x6, x94, x95 => if x95 < x94 then (chron_most.l4 k x0 x6 x95 x94 x95 x0 0) else (some (x6, true))
def chron_most.l4 : Nat → Int → List (List Int) → Int → Int → Int → Int → Int → Option ((List (List Int)) × Bool)
  | 0, _, _, _, _, _, _, _ => none
  | k + 1, x0, x6, x11, x94, x95, x98, x99 => if x99 < x98 then (chron_most.l5 k x0 x6 x11 x99 x94 x95 x98 x99 x0 0) else (chron_most.l6 k x0 x6 x94 x95 x0 0)
def chron_most.l5 : Nat → Int → List (List Int) → Int → Int → Int → Int → Int → Int → Int → Int → Option ((List (List Int)) × Bool)
  | 0, _, _, _, _, _, _, _, _, _, _ => none
  | k + 1, x0, x6, x11, x12, x94, x95, x98, x99, x102, x103 => if x103 < x102 then (if 0 ≤ x12 then (if x12 < (x6.length : Int) then (if 0 ≤ x11 then (if x11 < ((rd_L2 x6 x12).length : Int) then (if (rd (rd_L2 x6 x12) x11) < 1000000000 then (if x11 < (x6.length : Int) then (if 0 ≤ x103 then (if x103 < ((rd_L2 x6 x11).length : Int) then (if (rd (rd_L2 x6 x11) x103) < 1000000000 then (if x103 < ((rd_L2 x6 x12).length : Int) then (chron_most.l5 k x0 (x6.set (x12 : Int).toNat ((rd_L2 x6 x12).set (x103 : Int).toNat (mn (rd (rd_L2 x6 x12) x103) (wrap64 ((rd (rd_L2 x6 x12) x11) + (rd (rd_L2 x6 x11) x103)))))) x11 x12 x94 x95 x98 x99 x102 (wrap64 (x103 + 1))) else (none)) else (chron_most.l5 k x0 x6 x11 x12 x94 x95 x98 x99 x102 (wrap64 (x103 + 1)))) else (none)) else (none)) else (none)) else (chron_most.l5 k x0 x6 x11 x12 x94 x95 x98 x99 x102 (wrap64 (x103 + 1)))) else (none)) else (none)) else (none)) else (none)) else (chron_most.l4 k x0 x6 x11 x94 x95 x98 (wrap64 (x99 + 1)))
def chron_most.l6 : Nat → Int → List (List Int) → Int → Int → Int → Int → Option ((List (List Int)) × Bool)
  | 0, _, _, _, _, _, _ => none
  | k + 1, x0, x6, x94, x95, x155, x156 => if x156 < x155 then (if 0 ≤ x156 then (if x156 < (x6.length : Int) then (if x156 < ((rd_L2 x6 x156).length : Int) then (if (rd (rd_L2 x6 x156) x156) < 0 then (some (([] : List (List Int)), false)) else (chron_most.l6 k x0 x6 x94 x95 x155 (wrap64 (x156 + 1)))) else (none)) else (none)) else (none)) else (chron_most.l3 k x0 x6 x94 (wrap64 (x95 + 1)))
end
def chron_most.f (k : Nat) (a0 : Int) (l1 : List (S43)) : Option ((List (List Int)) × Bool) := if 0 ≤ a0 then (if (a0 : Int).toNat ≤ 11728124029610 then ((some (List.replicate (a0 : Int).toNat [] : List (List Int))).bind fun y103 => (chron_most.l0 k a0 l1 y103 (y103.length : Int) 0)) else (none)) else (none)
theorem chron_most.mono_l : ∀ k, (∀ y0 y1 y2 y3 y4, LeO (chron_most.l0 k y0 y1 y2 y3 y4) (chron_most.l0 (k + 1) y0 y1 y2 y3 y4)) ∧ (∀ y0 y1 y2 y3 y4 y5 y6 y7, LeO (chron_most.l1 k y0 y1 y2 y3 y4 y5 y6 y7) (chron_most.l1 (k + 1) y0 y1 y2 y3 y4 y5 y6 y7)) ∧ (∀ y0 y1 y2 y3 y4, LeO (chron_most.l2 k y0 y1 y2 y3 y4) (chron_most.l2 (k + 1) y0 y1 y2 y3 y4)) ∧ (∀ y0 y1 y2 y3, LeO (chron_most.l3 k y0 y1 y2 y3) (chron_most.l3 (k + 1) y0 y1 y2 y3)) ∧ (∀ y0 y1 y2 y3 y4 y5 y6, LeO (chron_most.l4 k y0 y1 y2 y3 y4 y5 y6) (chron_most.l4 (k + 1) y0 y1 y2 y3 y4 y5 y6)) ∧ (∀ y0 y1 y2 y3 y4 y5 y6 y7 y8 y9, LeO (chron_most.l5 k y0 y1 y2 y3 y4 y5 y6 y7 y8 y9) (chron_most.l5 (k + 1) y0 y1 y2 y3 y4 y5 y6 y7 y8 y9)) ∧ (∀ y0 y1 y2 y3 y4 y5, LeO (chron_most.l6 k y0 y1 y2 y3 y4 y5) (chron_most.l6 (k + 1) y0 y1 y2 y3 y4 y5))
  | 0 => ⟨fun _ _ _ _ _ r h => by simp [chron_most.l0] at h, fun _ _ _ _ _ _ _ _ r h => by simp [chron_most.l1] at h, fun _ _ _ _ _ r h => by simp [chron_most.l2] at h, fun _ _ _ _ r h => by simp [chron_most.l3] at h, fun _ _ _ _ _ _ _ r h => by simp [chron_most.l4] at h, fun _ _ _ _ _ _ _ _ _ _ r h => by simp [chron_most.l5] at h, fun _ _ _ _ _ _ r h => by simp [chron_most.l6] at h⟩
  | k + 1 => by
    obtain ⟨ih0, ih1, ih2, ih3, ih4, ih5, ih6⟩ := chron_most.mono_l k
    refine ⟨?_, ?_, ?_, ?_, ?_, ?_, ?_⟩
    · intro y0 y1 y2 y3 y4
      unfold chron_most.l0
      repeat' first
      | (with_reducible exact ih0 _ _ _ _ _)
      | (with_reducible exact ih1 _ _ _ _ _ _ _ _)
      | (with_reducible exact ih2 _ _ _ _ _)
      | (with_reducible exact ih3 _ _ _ _)
      | (with_reducible exact ih4 _ _ _ _ _ _ _)
      | (with_reducible exact ih5 _ _ _ _ _ _ _ _ _ _)
      | (with_reducible exact ih6 _ _ _ _ _ _)
      | (with_reducible exact LeO.refl _)
      | (with_reducible exact LeO.none _)
      | (with_reducible refine LeO.ite ?_ ?_)
      | (with_reducible refine LeO.bind ?_ (fun _ => ?_))
      | exact ih0 _ _ _ _ _
      | exact ih1 _ _ _ _ _ _ _ _
      | exact ih2 _ _ _ _ _
      | exact ih3 _ _ _ _
      | exact ih4 _ _ _ _ _ _ _
      | exact ih5 _ _ _ _ _ _ _ _ _ _
      | exact ih6 _ _ _ _ _ _
      | exact LeO.none _
      | refine LeO.ite ?_ ?_
      | refine LeO.bind ?_ (fun _ => ?_)
    · intro y0 y1 y2 y3 y4 y5 y6 y7
      unfold chron_most.l1
      repeat' first
      | (with_reducible exact ih0 _ _ _ _ _)
      | (with_reducible exact ih1 _ _ _ _ _ _ _ _)
      | (with_reducible exact ih2 _ _ _ _ _)
      | (with_reducible exact ih3 _ _ _ _)
      | (with_reducible exact ih4 _ _ _ _ _ _ _)
      | (with_reducible exact ih5 _ _ _ _ _ _ _ _ _ _)
      | (with_reducible exact ih6 _ _ _ _ _ _)
      | (with_reducible exact LeO.refl _)
      | (with_reducible exact LeO.none _)
      | (with_reducible refine LeO.ite ?_ ?_)
      | (with_reducible refine LeO.bind ?_ (fun _ => ?_))
      | exact ih0 _ _ _ _ _
      | exact ih1 _ _ _ _ _ _ _ _
      | exact ih2 _ _ _ _ _
      | exact ih3 _ _ _ _
      | exact ih4 _ _ _ _ _ _ _
      | exact ih5 _ _ _ _ _ _ _ _ _ _
      | exact ih6 _ _ _ _ _ _
      | exact LeO.none _
      | refine LeO.ite ?_ ?_
      | refine LeO.bind ?_ (fun _ => ?_)
    · intro y0 y1 y2 y3 y4
      unfold chron_most.l2
      repeat' first
      | (with_reducible exact ih0 _ _ _ _ _)
      | (with_reducible exact ih1 _ _ _ _ _ _ _ _)
      | (with_reducible exact ih2 _ _ _ _ _)
      | (with_reducible exact ih3 _ _ _ _)
      | (with_reducible exact ih4 _ _ _ _ _ _ _)
      | (with_reducible exact ih5 _ _ _ _ _ _ _ _ _ _)
      | (with_reducible exact ih6 _ _ _ _ _ _)
      | (with_reducible exact LeO.refl _)
      | (with_reducible exact LeO.none _)
      | (with_reducible refine LeO.ite ?_ ?_)
      | (with_reducible refine LeO.bind ?_ (fun _ => ?_))
      | exact ih0 _ _ _ _ _
      | exact ih1 _ _ _ _ _ _ _ _
      | exact ih2 _ _ _ _ _
      | exact ih3 _ _ _ _
      | exact ih4 _ _ _ _ _ _ _
      | exact ih5 _ _ _ _ _ _ _ _ _ _
      | exact ih6 _ _ _ _ _ _
      | exact LeO.none _
      | refine LeO.ite ?_ ?_
      | refine LeO.bind ?_ (fun _ => ?_)
    · intro y0 y1 y2 y3
      unfold chron_most.l3
      repeat' first
      | (with_reducible exact ih0 _ _ _ _ _)
      | (with_reducible exact ih1 _ _ _ _ _ _ _ _)
      | (with_reducible exact ih2 _ _ _ _ _)
      | (with_reducible exact ih3 _ _ _ _)
      | (with_reducible exact ih4 _ _ _ _ _ _ _)
      | (with_reducible exact ih5 _ _ _ _ _ _ _ _ _ _)
      | (with_reducible exact ih6 _ _ _ _ _ _)
      | (with_reducible exact LeO.refl _)
      | (with_reducible exact LeO.none _)
      | (with_reducible refine LeO.ite ?_ ?_)
      | (with_reducible refine LeO.bind ?_ (fun _ => ?_))
      | exact ih0 _ _ _ _ _
      | exact ih1 _ _ _ _ _ _ _ _
      | exact ih2 _ _ _ _ _
      | exact ih3 _ _ _ _
      | exact ih4 _ _ _ _ _ _ _
      | exact ih5 _ _ _ _ _ _ _ _ _ _
      | exact ih6 _ _ _ _ _ _
      | exact LeO.none _
      | refine LeO.ite ?_ ?_
      | refine LeO.bind ?_ (fun _ => ?_)
    · intro y0 y1 y2 y3 y4 y5 y6
      unfold chron_most.l4
      repeat' first
      | (with_reducible exact ih0 _ _ _ _ _)
      | (with_reducible exact ih1 _ _ _ _ _ _ _ _)
      | (with_reducible exact ih2 _ _ _ _ _)
      | (with_reducible exact ih3 _ _ _ _)
      | (with_reducible exact ih4 _ _ _ _ _ _ _)
      | (with_reducible exact ih5 _ _ _ _ _ _ _ _ _ _)
      | (with_reducible exact ih6 _ _ _ _ _ _)
      | (with_reducible exact LeO.refl _)
      | (with_reducible exact LeO.none _)
      | (with_reducible refine LeO.ite ?_ ?_)
      | (with_reducible refine LeO.bind ?_ (fun _ => ?_))
      | exact ih0 _ _ _ _ _
      | exact ih1 _ _ _ _ _ _ _ _
      | exact ih2 _ _ _ _ _
      | exact ih3 _ _ _ _
      | exact ih4 _ _ _ _ _ _ _
      | exact ih5 _ _ _ _ _ _ _ _ _ _
      | exact ih6 _ _ _ _ _ _
      | exact LeO.none _
      | refine LeO.ite ?_ ?_
      | refine LeO.bind ?_ (fun _ => ?_)
    · intro y0 y1 y2 y3 y4 y5 y6 y7 y8 y9
      unfold chron_most.l5
      repeat' first
      | (with_reducible exact ih0 _ _ _ _ _)
      | (with_reducible exact ih1 _ _ _ _ _ _ _ _)
      | (with_reducible exact ih2 _ _ _ _ _)
      | (with_reducible exact ih3 _ _ _ _)
      | (with_reducible exact ih4 _ _ _ _ _ _ _)
      | (with_reducible exact ih5 _ _ _ _ _ _ _ _ _ _)
      | (with_reducible exact ih6 _ _ _ _ _ _)
      | (with_reducible exact LeO.refl _)
      | (with_reducible exact LeO.none _)
      | (with_reducible refine LeO.ite ?_ ?_)
      | (with_reducible refine LeO.bind ?_ (fun _ => ?_))
      | exact ih0 _ _ _ _ _
      | exact ih1 _ _ _ _ _ _ _ _
      | exact ih2 _ _ _ _ _
      | exact ih3 _ _ _ _
      | exact ih4 _ _ _ _ _ _ _
      | exact ih5 _ _ _ _ _ _ _ _ _ _
      | exact ih6 _ _ _ _ _ _
      | exact LeO.none _
      | refine LeO.ite ?_ ?_
      | refine LeO.bind ?_ (fun _ => ?_)
    · intro y0 y1 y2 y3 y4 y5
      unfold chron_most.l6
      repeat' first
      | (with_reducible exact ih0 _ _ _ _ _)
      | (with_reducible exact ih1 _ _ _ _ _ _ _ _)
      | (with_reducible exact ih2 _ _ _ _ _)
      | (with_reducible exact ih3 _ _ _ _)
      | (with_reducible exact ih4 _ _ _ _ _ _ _)
      | (with_reducible exact ih5 _ _ _ _ _ _ _ _ _ _)
      | (with_reducible exact ih6 _ _ _ _ _ _)
      | (with_reducible exact LeO.refl _)
      | (with_reducible exact LeO.none _)
      | (with_reducible refine LeO.ite ?_ ?_)
      | (with_reducible refine LeO.bind ?_ (fun _ => ?_))
      | exact ih0 _ _ _ _ _
      | exact ih1 _ _ _ _ _ _ _ _
      | exact ih2 _ _ _ _ _
      | exact ih3 _ _ _ _
      | exact ih4 _ _ _ _ _ _ _
      | exact ih5 _ _ _ _ _ _ _ _ _ _
      | exact ih6 _ _ _ _ _ _
      | exact LeO.none _
      | refine LeO.ite ?_ ?_
      | refine LeO.bind ?_ (fun _ => ?_)
theorem chron_most.mono : ∀ a0 a1 k, LeO (chron_most.f k a0 a1) (chron_most.f (k + 1) a0 a1) := by
  intro a0 a1 k
  obtain ⟨ih0, ih1, ih2, ih3, ih4, ih5, ih6⟩ := chron_most.mono_l k
  unfold chron_most.f
  repeat' first
      | (with_reducible exact ih0 _ _ _ _ _)
      | (with_reducible exact ih1 _ _ _ _ _ _ _ _)
      | (with_reducible exact ih2 _ _ _ _ _)
      | (with_reducible exact ih3 _ _ _ _)
      | (with_reducible exact ih4 _ _ _ _ _ _ _)
      | (with_reducible exact ih5 _ _ _ _ _ _ _ _ _ _)
      | (with_reducible exact ih6 _ _ _ _ _ _)
      | (with_reducible exact LeO.refl _)
      | (with_reducible exact LeO.none _)
      | (with_reducible refine LeO.ite ?_ ?_)
      | (with_reducible refine LeO.bind ?_ (fun _ => ?_))
      | exact ih0 _ _ _ _ _
      | exact ih1 _ _ _ _ _ _ _ _
      | exact ih2 _ _ _ _ _
      | exact ih3 _ _ _ _
      | exact ih4 _ _ _ _ _ _ _
      | exact ih5 _ _ _ _ _ _ _ _ _ _
      | exact ih6 _ _ _ _ _ _
      | exact LeO.none _
      | refine LeO.ite ?_ ?_
      | refine LeO.bind ?_ (fun _ => ?_)
def chron_most.T16 : Bool × List (List Nat × List Nat) := (true, [([], []), ([], []), ([1], [1]), ([0, 2], [0, 2]), ([3], [3]), ([], []), ([5], [5]), ([], []), ([], []), ([8], [8]), ([7, 9], [7, 9]), ([10], [10]), ([], []), ([12], [12]), ([11, 13], [11, 13]), ([14], [14]), ([], []), ([16], [16]), ([15, 17], [15, 17]), ([4, 6, 0, 1, 2, 3, 4, 5, 6, 7, 8, 9, 10, 11, 12, 13, 14, 15, 16, 17, 18], [4, 6]), ([19, 18, 0, 1, 2, 3, 4, 5, 6, 7, 8, 9, 10, 11, 12, 13, 14, 15, 16, 17, 18], [18, 19])])
def chron_most.B16 : List Nat := [0, 0, 2, 7, 15, 0, 32, 0, 0, 256, 896, 1920, 0, 4096, 16256, 32640, 0, 65536, 262016, 524287, 1048575]
theorem chron_most.tab16 : rtab .any (opsOf Try.f28 16) = chron_most.T16 := by kernel_rfl
theorem chron_most.bits16 : waitsOk chron_most.T16.2 chron_most.B16 = true := by kernel_rfl
def chron_most.T17 : Bool × List (List Nat × List Nat) := (true, [([], []), ([], []), ([1], [1]), ([0, 2], [0, 2]), ([3], [3]), ([], []), ([5], [5]), ([], []), ([], []), ([8], [8]), ([7, 9], [7, 9]), ([10], [10]), ([], []), ([12], [12]), ([11, 13], [11, 13]), ([14], [14]), ([], []), ([16], [16]), ([17], [17]), ([15, 18], [15, 18]), ([4, 6, 0, 1, 2, 3, 4, 5, 6, 7, 8, 9, 10, 11, 12, 13, 14, 15, 16, 17, 18, 19], [4, 6]), ([20, 19, 0, 1, 2, 3, 4, 5, 6, 7, 8, 9, 10, 11, 12, 13, 14, 15, 16, 17, 18, 19], [19, 20])])
def chron_most.B17 : List Nat := [0, 0, 2, 7, 15, 0, 32, 0, 0, 256, 896, 1920, 0, 4096, 16256, 32640, 0, 65536, 196608, 524160, 1048575, 2097151]
theorem chron_most.tab17 : rtab .any (opsOf Try.f28 17) = chron_most.T17 := by kernel_rfl
theorem chron_most.bits17 : waitsOk chron_most.T17.2 chron_most.B17 = true := by kernel_rfl
def chron_most.T29 : Bool × List (List Nat × List Nat) := (true, [([], []), ([], []), ([0, 1], [0, 1]), ([2], [2]), ([], []), ([], []), ([], []), ([5, 6], [5, 6]), ([7], [7]), ([], []), ([8, 9], [8, 9]), ([10], [10]), ([], []), ([], []), ([12, 13], [12, 13]), ([14], [14]), ([], []), ([15, 16], [15, 16]), ([17], [17]), ([], []), ([], []), ([19, 20], [19, 20]), ([21], [21]), ([], []), ([22, 23], [22, 23]), ([24], [24]), ([18, 25], [18, 25]), ([11, 26], [11, 26]), ([3, 4, 0, 1, 2, 3, 4, 5, 6, 7, 8, 9, 10, 11, 12, 13, 14, 15, 16, 17, 18, 19, 20, 21, 22, 23, 24, 25, 26, 27], [3, 4]), ([28, 27, 0, 1, 2, 3, 4, 5, 6, 7, 8, 9, 10, 11, 12, 13, 14, 15, 16, 17, 18, 19, 20, 21, 22, 23, 24, 25, 26, 27], [27, 28])])
def chron_most.B29 : List Nat := [0, 0, 3, 7, 0, 0, 0, 96, 224, 0, 992, 2016, 0, 0, 12288, 28672, 0, 126976, 258048, 0, 0, 1572864, 3670016, 0, 16252928, 33030144, 67104768, 134217696, 268435455, 536870911]
theorem chron_most.tab29 : rtab .any (opsOf Try.f28 29) = chron_most.T29 := by kernel_rfl
theorem chron_most.bits29 : waitsOk chron_most.T29.2 chron_most.B29 = true := by kernel_rfl
set_option maxHeartbeats 8000000 in
set_option maxRecDepth 100000 in
theorem chron_most.calls (k : Nat) (a0 : Int) (A1 : Option Addr) (c1 : Nat) (l1 : List (S43)) (r1 : List (List Int)) (r2 : Bool) (w : World) (hr1 : Kd.C k43 w A1 l1.length l1) (hc1 : l1.length ≤ c1) (h : chron_most.f k a0 l1 = some (r1, r2)) :
    Calls Try.prog 28 #[.int .i64 a0, .slice A1 l1.length c1] w fun e w' => ∃ v0_ : Value, e = .returned (.tuple #[v0_, .bool r2]) ∧ Kd.S (Kd.slice 3 (Kd.int .i64)) 30 w' w.heap.size (fun _ => True) v0_ r1 ∧ Below w.heap.size w w' := by
  have hu43 := Try.underlying43
  have HR1 := Aside0.mk hr1
  have HC1 := Aside0.mk hc1
  clear hr1 hc1
  have HB := Aside0.mk (Below.refl w.heap.size w)
  have H : (if 0 ≤ a0 then (if (a0 : Int).toNat ≤ 11728124029610 then ((some (List.replicate (a0 : Int).toNat [] : List (List Int))).bind fun y103 => (chron_most.l0 k a0 l1 y103 (y103.length : Int) 0)) else (none)) else (none)) = some (r1, r2) := h
  clear h
  by_cases c3 : 0 ≤ a0
  · rw [if_pos c3] at H
    have c3b0 := eq_true c3
    have c3b1 : decide (0 ≤ a0) = true := decide_eq_true c3
    clear c3
    by_cases c4 : (a0 : Int).toNat ≤ 11728124029610
    · rw [if_pos c4] at H
      have c4b0 := eq_true c4
      have c4b1 : decide ((a0 : Int).toNat ≤ 11728124029610) = true := decide_eq_true c4
      clear c4
      obtain ⟨y103, hy103⟩ : ∃ y_ : List (List Int), y_ = (List.replicate (a0 : Int).toNat []) := ⟨_, rfl⟩
      replace H : (chron_most.l0 k a0 l1 y103 (y103.length : Int) 0) = some (r1, r2) := by first | (rw [hy103]; with_reducible exact H) | (have H2_ := (Option.bind_some _ _).symm.trans H; rw [hy103]; with_reducible exact H2_) | (have H2_ := (Option.bind_some _ _).symm.trans H; with_reducible exact H2_) | with_reducible exact H | (rw [hy103]; exact H) | exact H
      have Ny103 := Aside0.mk hy103
      clear hy103
      have H' := Aside0.mk H
      clear H
      go_enter Try.func28, Try.ntmps28
      go_wp2_with (first | ((with_reducible refine gate_dst (N := 16) rfl ?_); refine Kd.S_make (Kd.slice 3 (Kd.int .i64)) _ 30 rfl (N := 16) rfl 60 _ _ rfl a0 rfl rfl Try.underlying60 (.slice none 0 0) 24 info30 rfl (by decide) (by omega) [] (ok := fun _ => True) (okp := fun _ => True) ⟨_, rfl, Kd.R_nil _ _ _ _ _⟩ (fun _ hk => hk) trivial (of_decide_eq_true (by first | (with_reducible assumption) | assumption)) (Nat.le_trans (Nat.mul_le_mul_right _ (of_decide_eq_true (by first | (with_reducible assumption) | assumption) : a0.toNat ≤ 11728124029610)) (by omega)) (Below.refl _ _) (Nat.le_refl _) ?_; intro v104 w5 ho6 hb hg_ hnew_; clear hg_ hnew_; (first | rw [← Ny103.out] at ho6 | (simp only [Int.reduceToNat] at ho6; rw [← Ny103.out] at ho6)); have n0_ := Aside0.mk (Kd.S_lower ho6 (below_size (by repeat (first | (with_reducible first | exact HB.out | apply below_alloc | apply pw_below_drewN | apply below_drew1) | exact HB.out)))); have n1_ := Aside0.mk (below_step (by repeat (first | (with_reducible first | exact HB.out | apply below_alloc | apply pw_below_drewN | apply below_drew1) | exact HB.out)) hb); clear HB; have HO105 := n0_; have HB := n1_; clear n0_ n1_; clear hb ho6; obtain ⟨Ao7, co7, eo7⟩ := Kd.S_slice HO105.out; subst eo7))
      go_loopg [19] k (fun kq v19 w' => ∃ (x6_1 : List (List Int)) (x19_1 : Int), v19 = .int .i64 x19_1 ∧ Aside0 (chron_most.l0 kq a0 l1 x6_1 (y103.length : Int) x19_1 = some (r1, r2)) ∧ Aside0 (kq ≤ k) ∧ Aside0 (Kd.S (Kd.slice 3 (Kd.int .i64)) 30 w' w.heap.size (fun _ => True) (.slice Ao7 y103.length co7) x6_1) ∧ Aside0 (Below w.heap.size w w'))
      case atStart => exact ⟨(y103), (0), (by first | rfl | (simp; done) | (simp [*]; done)), H', ⟨Nat.le_refl _⟩, ⟨by (with_reducible repeat (first | apply Kd.S_alloc | apply Kd.S_drewN | apply Kd.S_drew)); exact HO105.out⟩, ⟨by repeat (first | (with_reducible first | exact HB.out | apply below_alloc | apply pw_below_drewN | apply below_drew1) | exact HB.out)⟩⟩
      case round =>
        clear H'
        try clear c1
        try clear c2
        try clear p2
        try clear c3
        try clear c3b0
        try clear c3b1
        try clear c4
        try clear c4b0
        try clear c4b1
        obtain ⟨x6_1, x19_1, rfl, HA, HK1, HO_6, HB⟩ := hrel
        have hl6_1 := (Kd.S_reads' HO_6.out).1
        rw [hl6_1] at HO_6
        (try simp only [hl6_1])
        cases gk with
        | zero => exact absurd HA.out (by simp [chron_most.l0])
        | succ k1 =>
          have H := HA.out
          clear HA
          simp only [chron_most.l0] at H
          by_cases c8 : x19_1 < (y103.length : Int)
          · rw [if_pos c8] at H
            have c8b0 : decide (x19_1 < (y103.length : Int)) = true := decide_eq_true c8
            first | (rw [hl6_1] at c8b0) | skip
            clear c8
            by_cases c9 : 0 ≤ a0
            · rw [if_pos c9] at H
              have c9b0 := eq_true c9
              have c9b1 : decide (0 ≤ a0) = true := decide_eq_true c9
              clear c9
              by_cases c10 : (a0 : Int).toNat ≤ 35184372088832
              · rw [if_pos c10] at H
                have c10b0 := eq_true c10
                have c10b1 : decide ((a0 : Int).toNat ≤ 35184372088832) = true := decide_eq_true c10
                clear c10
                obtain ⟨y106, hy106⟩ : ∃ y_ : List Int, y_ = (List.replicate (a0 : Int).toNat 0) := ⟨_, rfl⟩
                replace H : (if 0 ≤ x19_1 then (if x19_1 < (x6_1.length : Int) then ((some (x6_1.set (x19_1 : Int).toNat y106 : List (List Int))).bind fun y109 => (chron_most.l1 k1 a0 l1 y109 x19_1 (y103.length : Int) x19_1 ((rd_L2 y109 x19_1).length : Int) 0)) else (none)) else (none)) = some (r1, r2) := by first | (rw [hy106]; with_reducible exact H) | (have H2_ := (Option.bind_some _ _).symm.trans H; rw [hy106]; with_reducible exact H2_) | (have H2_ := (Option.bind_some _ _).symm.trans H; with_reducible exact H2_) | with_reducible exact H | (rw [hy106]; exact H) | exact H
                have Ny106 := Aside0.mk hy106
                clear hy106
                by_cases c11 : 0 ≤ x19_1
                · rw [if_pos c11] at H
                  have c11b0 : decide (0 ≤ x19_1) = true := decide_eq_true c11
                  clear c11
                  by_cases c12 : x19_1 < (x6_1.length : Int)
                  · rw [if_pos c12] at H
                    have c12b0 : decide (x19_1 < (x6_1.length : Int)) = true := decide_eq_true c12
                    clear c12
                    obtain ⟨y109, hy109⟩ : ∃ y_ : List (List Int), y_ = (x6_1.set (x19_1 : Int).toNat y106) := ⟨_, rfl⟩
                    replace H : (chron_most.l1 k1 a0 l1 y109 x19_1 (y103.length : Int) x19_1 ((rd_L2 y109 x19_1).length : Int) 0) = some (r1, r2) := by first | (rw [hy109]; with_reducible exact H) | (have H2_ := (Option.bind_some _ _).symm.trans H; rw [hy109]; with_reducible exact H2_) | (have H2_ := (Option.bind_some _ _).symm.trans H; with_reducible exact H2_) | with_reducible exact H | (rw [hy109]; exact H) | exact H
                    have Ny109 := Aside0.mk hy109
                    clear hy109
                    have H' := Aside0.mk H
                    clear H
                    go_wp2_with (first | ((with_reducible refine gate_dst (N := 25) rfl ?_); refine Kd.R_make (Kd.int .i64) _ 3 rfl (N := 25) rfl 30 _ _ rfl a0 rfl rfl Try.underlying30 (.int .i64 0) 8 info3 rfl (by decide) (by omega) 0 (ok := fun _ => True) (okp := fun _ => True) rfl (fun _ hk => hk) trivial (of_decide_eq_true (by first | (with_reducible assumption) | assumption)) (Nat.le_trans (Nat.mul_le_mul_right _ (of_decide_eq_true (by first | (with_reducible assumption) | assumption) : a0.toNat ≤ 35184372088832)) (by omega)) (Below.refl _ _) (Nat.le_refl _) ?_; intro v107 w14 ho15 hb hg_ hnew_; clear hg_ hnew_; (first | rw [← Ny106.out] at ho15 | (simp only [Int.reduceToNat] at ho15; rw [← Ny106.out] at ho15)); have n0_ := Aside0.mk (Kd.S_elder' (by (with_reducible repeat (first | apply Kd.S_alloc | apply Kd.S_drewN | apply Kd.S_drew)); exact HO_6.out) (Kd.R_base ho15) hb); have n1_ := Aside0.mk (Kd.R_lower ho15 (below_size (by repeat (first | (with_reducible first | exact HB.out | apply below_alloc | apply pw_below_drewN | apply below_drew1) | exact HB.out)))); have n2_ := Aside0.mk (below_step (by repeat (first | (with_reducible first | exact HB.out | apply below_alloc | apply pw_below_drewN | apply below_drew1) | exact HB.out)) hb); clear HO_6; clear HB; have HO_6 := n0_; have HO108 := n1_; have HB := n2_; clear n0_ n1_ n2_; clear hb ho15; have p13 : 0 ≤ (x19_1 : Int) := of_decide_eq_true (by first | (with_reducible assumption) | assumption); have q13 : (x19_1 : Int) < ((x6_1.length : Int) : Int) := of_decide_eq_true (by first | (with_reducible assumption) | assumption); obtain ⟨go13, co13, eo13, gb13, gl13, cl13, HG13⟩ := Kd.S_form HO_6.out (by omega); (first | cases eo13 | (injection eo13 with ea_ en_ ec_; (first | subst ea_ | (injection ea_ with ea_; subst ea_)); subst ec_; clear en_)); have GB13 := Aside0.mk gb13; have GG13 := Aside0.mk HG13; clear gb13 gl13 HG13; obtain ⟨_, ce13, hcl13, hM13, hcc13, hfr13, _, _⟩ := Kd.S_elem HO_6.out [] (x19_1 : Int) p13 q13; obtain ⟨ve13_0, rfl, ge13_0⟩ := hM13; have hx13_0 := hcc13 0 _ rfl; have hf13_0 := hfr13 0; (try simp only [show ((Kd.slice 3 (Kd.int .i64))).sz = 1 from rfl, Nat.mul_one, Nat.add_zero] at hx13_0); (try simp only [show ((Kd.slice 3 (Kd.int .i64))).sz = 1 from rfl, Nat.mul_one, Nat.add_zero] at hf13_0); (try clear hcl13); (try clear hcc13); (try clear hfr13); (try clear hM13); replace p13 := eq_true p13; replace q13 := eq_true q13; have n_ := Aside0.mk (Kd.S_mono (ok' := (fun k_ => some k_ ≠ (v107 : Value).ownBlock)) HO_6.out (fun k_ hk => hk.2)); clear HO_6; have HO_6 := n_; clear n_; have HX16 := Aside0.mk (show Kd.S (Kd.slice 3 (Kd.int .i64)) 30 w14 w.heap.size (fun k_ => ((fun _ => True)) k_ ∧ ¬ ((fun k_ => some k_ = (v107 : Value).ownBlock)) k_) (.slice (some ⟨go13, 0, none⟩) x6_1.length co7) x6_1 from (by (with_reducible repeat (first | apply Kd.S_alloc | apply Kd.S_drewN | apply Kd.S_drew)); exact Kd.S_mono HO_6.out (fun k_ hk => ⟨trivial, fun e_ => hk e_⟩))); obtain ⟨oki16, ce16, hcl16, hM16, hcc16, hfr16, hoki16, hH16⟩ := Kd.S_elem HX16.out [] (x19_1 : Int) (of_decide_eq_true (by first | (with_reducible assumption) | assumption)) (by have h_ : (x19_1 : Int) < ((x6_1.length : Int) : Int) := of_decide_eq_true (by first | (with_reducible assumption) | assumption); first | exact h_ | (have e_ := (Kd.S_reads' HO_6.out).1; omega) | simpa using h_); obtain ⟨ve16_0, rfl, ge16_0⟩ := hM16; have HP16 := Kd.S_seg hH16 (of_decide_eq_true (by first | (with_reducible assumption) | assumption)) (by have h_ : (x19_1 : Int) < ((x6_1.length : Int) : Int) := of_decide_eq_true (by first | (with_reducible assumption) | assumption); first | exact h_ | (have e_ := (Kd.S_reads' HO_6.out).1; omega) | simpa using h_) (seg := [v107]) (j := 0) (show 1 ≤ 1 from by decide) (x' := y106) (Kd.M_row (Kd.R_mono (Kd.R_tight rfl (Kd.R_mono (ok' := fun k_ => ((fun _ => True)) k_ ∧ k_ ≠ go13) (Kd.R_apart' (HO108.out) (Kd.S_typed HO_6.out) (by decide)) (fun k_ hk => ⟨trivial, fun e_ => (hk.2) (by rw [e_]; rfl)⟩))) (fun _ h_ => Or.inr (h_)))) (fun _ hk => hk) (fun k_ hk_ => ((Kd.R_mono (ok' := fun k_ => ((fun _ => True)) k_ ∧ k_ ≠ go13) (Kd.R_apart' (HO108.out) (Kd.S_typed HO_6.out) (by decide)) (fun k_ hk => ⟨trivial, fun e_ => (hk.2) (by rw [e_]; rfl)⟩))).1 k_ hk_.symm); have hx16_0 := hcc16 0 _ rfl; (try simp only [show ((Kd.slice 3 (Kd.int .i64))).sz = 1 from rfl, Nat.mul_one, Nat.add_zero] at hx16_0); have hf16_0 := hfr16 0; (try simp only [show ((Kd.slice 3 (Kd.int .i64))).sz = 1 from rfl, Nat.mul_one, Nat.add_zero] at hf16_0); (try clear hcl16); (try clear hcc16); (try clear hfr16); (try clear hM16); (try clear hoki16); (try clear hH16); (try simp only [show ((Kd.slice 3 (Kd.int .i64))).sz = 1 from rfl, Nat.mul_one, Nat.add_zero] at HP16)) | ((with_reducible refine gate_store (t := 30) (p := 26) rfl ?_); refine store_event (t := 30) (p := 26) (v := ?vo_w17) (w1 := (w14.setCell ⟨go13, (x19_1 : Int).toNat, none⟩ (v107))) ?hg ?ho ?hn ?hr ?_; (case ho => rfl); (case hg => rfl); (case hn => rfl); (case hr => obtain ⟨A_, n_, c_, e_⟩ := Kd.R_slice_ HO108.out; subst e_; first | (go_simp; done) | (go_simp; rfl)); intro w17 hw; have hg : w14.grownBy w17 (some go13) := (by rw [hw]; exact HP16.2); have hp_ : Kd.S (Kd.slice 3 (Kd.int .i64)) 30 w17 w.heap.size (fun _ => True) (.slice (some ⟨go13, 0, none⟩) x6_1.length co7) y109 := (by rw [hw, Ny109.out]; exact HP16.1); clear HP16; have n0_ := Aside0.mk (hp_); have n1_ := Aside0.mk ((by rw [hw]; exact below_set (HB.out) GB13.out : Below w.heap.size w w17)); clear HO_6; clear HB; clear HO108; have HO_6 := n0_; have HB := n1_; clear n0_ n1_; clear hg hw hp_; have p110 : 0 ≤ (x19_1 : Int) := of_decide_eq_true (by first | (with_reducible assumption) | assumption); have q110 : x19_1 < (y109.length : Int) := (by have h_ : (x19_1 : Int) < ((x6_1.length : Int) : Int) := of_decide_eq_true (by first | (with_reducible assumption) | assumption); first | (have e_ := (Kd.S_reads' HO_6.out).1; omega) | simpa only [Ny109.out, List.length_set] using h_); have ql110 : ((x19_1 : Int) < ((x6_1.length : Int) : Int)) = True := eq_true (of_decide_eq_true (by first | (with_reducible assumption) | assumption)); obtain ⟨ad110, A110_0, c110_0, e110, hx110_0, hl110_0, hi110_0⟩ := at_L2 (Kd.S_reads' HO_6.out).2.2 x19_1 p110 q110; obtain rfl : (⟨go13, 0, none⟩ : Addr) = ad110 := (by injection e110); obtain ⟨ce110, hce110, hMe110, hcc110⟩ := Kd.S_get HO_6.out [] x19_1 p110 (by first | exact q110 | exact of_decide_eq_true (by first | (with_reducible assumption) | assumption) | (have e_ := (Kd.S_reads' HO_6.out).1; omega)); obtain ⟨ve110_0, rfl, ge110_0⟩ := hMe110; have hv110_0 := hcc110 0 _ rfl; rw [Nat.add_zero, show ((Kd.slice 3 (Kd.int .i64))).sz = 1 from rfl, Nat.mul_one] at hv110_0; replace hv110_0 := Option.some.inj (hv110_0.symm.trans hx110_0); rw [hv110_0] at ge110_0; have HL110_0 := Aside0.mk (show Kd.R (Kd.int .i64) 3 _ _ _ _ (rd_L2 y109 x19_1) from ge110_0); clear hv110_0 ge110_0; have HX110_0 := Aside0.mk hx110_0; clear hcc110 hce110; (first | simp only [add_plain] at hx110_0 | simp only [add_at] at hx110_0 | simp only [Addr.add, Nat.zero_add] at hx110_0 | skip); have HR110_0 := Aside0.mk hi110_0; have HC110_0 := Aside0.mk hl110_0; clear hi110_0 hl110_0; replace p110 := eq_true p110; replace q110 := eq_true q110))
                    go_loopg [32] k1 (fun kq v32 w' => ∃ (x6_2 : List (List Int)) (x32_2 : Int), v32 = .int .i64 x32_2 ∧ Aside0 (chron_most.l1 kq a0 l1 x6_2 x19_1 (y103.length : Int) x19_1 ((rd_L2 y109 x19_1).length : Int) x32_2 = some (r1, r2)) ∧ Aside0 (kq ≤ k1) ∧ Aside0 (Kd.S (Kd.slice 3 (Kd.int .i64)) 30 w' w.heap.size (fun _ => True) (.slice (some ⟨go13, 0, none⟩) x6_1.length co7) x6_2) ∧ Aside0 (Below w.heap.size w w'))
                    case atStart => exact ⟨(y109), (0), (by first | rfl | (simp; done) | (simp [*]; done)), H', ⟨Nat.le_refl _⟩, ⟨by (try simp only [hl6_1]); (with_reducible repeat (first | apply Kd.S_alloc | apply Kd.S_drewN | apply Kd.S_drew)); exact HO_6.out⟩, ⟨by repeat (first | (with_reducible first | exact HB.out | apply below_alloc | apply pw_below_drewN | apply below_drew1) | exact HB.out)⟩⟩
                    case round =>
                      clear H'
                      try clear c1
                      try clear p1
                      try clear q1
                      try clear hx1
                      try clear c2
                      try clear p2
                      try clear c3
                      try clear c3b0
                      try clear c3b1
                      try clear c4
                      try clear c4b0
                      try clear c4b1
                      try clear c8
                      try clear c8b0
                      try clear c9
                      try clear c9b0
                      try clear c9b1
                      try clear c10
                      try clear c10b0
                      try clear c10b1
                      try clear c11
                      try clear c11b0
                      try clear p11
                      try clear q11
                      try clear hx11
                      try clear c12
                      try clear c12b0
                      try clear c13
                      try clear p13
                      try clear q13
                      try clear hx13
                      try clear hf13
                      try clear c16
                      try clear hx16
                      try clear hf16
                      try clear hx110_0
                      try clear hx13_0
                      try clear hx16_0
                      try clear p110
                      try clear p13
                      try clear p2
                      try clear q110
                      try clear q13
                      obtain ⟨x6_2, x32_2, rfl, HA, HK2, HO_6, HB⟩ := hrel
                      have hl6_2 := (Kd.S_reads' HO_6.out).1
                      rw [hl6_2] at HO_6
                      (try simp only [hl6_2])
                      cases gk with
                      | zero => exact absurd HA.out (by simp [chron_most.l1])
                      | succ k2 =>
                        have H := HA.out
                        clear HA
                        simp only [chron_most.l1] at H
                        by_cases c18 : x32_2 < ((rd_L2 y109 x19_1).length : Int)
                        · rw [if_pos c18] at H
                          have c18b0 : decide (x32_2 < ((rd_L2 y109 x19_1).length : Int)) = true := decide_eq_true c18
                          clear c18
                          by_cases c19 : x19_1 = x32_2
                          · rw [if_pos c19] at H
                            have c19b0 : (x19_1 == x32_2) = true := beq_iff_eq.mpr c19
                            have c19b1 : (x19_1 != x32_2) = false := bne_eq_false_iff_eq.mpr c19
                            clear c19
                            have H' := Aside0.mk H
                            clear H
                            go_wp2
                            (try simp only [← hl6_2])
                            go_roundg k2
                            case measure => have := HK1.out; have := HK2.out; omega
                            case rel => exact ⟨(x6_2), (wrap64 (x32_2 + 1)), (by first | rfl | (simp; done) | (simp [*]; done)), H', ⟨by have := HK1.out; have := HK2.out; omega⟩, ⟨by (try simp only [hl6_1]); (try simp only [hl6_2]); (with_reducible repeat (first | apply Kd.S_alloc | apply Kd.S_drewN | apply Kd.S_drew)); exact HO_6.out⟩, ⟨by repeat (first | (with_reducible first | exact HB.out | apply below_alloc | apply pw_below_drewN | apply below_drew1) | exact HB.out)⟩⟩
                          · rw [if_neg c19] at H
                            have c19b0 : (x19_1 == x32_2) = false := beq_eq_false_iff_ne.mpr c19
                            have c19b1 : (x19_1 != x32_2) = true := bne_iff_ne.mpr c19
                            by_cases c20 : 0 ≤ x19_1
                            · rw [if_pos c20] at H
                              have c20b0 : decide (0 ≤ x19_1) = true := decide_eq_true c20
                              clear c20
                              by_cases c21 : x19_1 < (x6_2.length : Int)
                              · rw [if_pos c21] at H
                                have c21b0 : decide (x19_1 < (x6_2.length : Int)) = true := decide_eq_true c21
                                clear c21
                                by_cases c22 : 0 ≤ x32_2
                                · rw [if_pos c22] at H
                                  have c22b0 : decide (0 ≤ x32_2) = true := decide_eq_true c22
                                  clear c22
                                  by_cases c23 : x32_2 < ((rd_L2 x6_2 x19_1).length : Int)
                                  · rw [if_pos c23] at H
                                    have c23b0 : decide (x32_2 < ((rd_L2 x6_2 x19_1).length : Int)) = true := decide_eq_true c23
                                    clear c23
                                    obtain ⟨y112, hy112⟩ : ∃ y_ : List Int, y_ = ((rd_L2 x6_2 x19_1).set (x32_2 : Int).toNat 1000000000) := ⟨_, rfl⟩
                                    replace H : (chron_most.l1 k2 a0 l1 (x6_2.set (x19_1 : Int).toNat y112) x19_1 (y103.length : Int) x19_1 ((rd_L2 y109 x19_1).length : Int) (wrap64 (x32_2 + 1))) = some (r1, r2) := by first | (rw [hy112]; with_reducible exact H) | (have H2_ := (Option.bind_some _ _).symm.trans H; rw [hy112]; with_reducible exact H2_) | (have H2_ := (Option.bind_some _ _).symm.trans H; with_reducible exact H2_) | with_reducible exact H | (rw [hy112]; exact H) | exact H
                                    have Ny112 := Aside0.mk hy112
                                    clear hy112
                                    obtain ⟨y114, hy114⟩ : ∃ y_ : List (List Int), y_ = (x6_2.set (x19_1 : Int).toNat y112) := ⟨_, rfl⟩
                                    replace H : (chron_most.l1 k2 a0 l1 y114 x19_1 (y103.length : Int) x19_1 ((rd_L2 y109 x19_1).length : Int) (wrap64 (x32_2 + 1))) = some (r1, r2) := by first | (rw [hy114]; with_reducible exact H) | (have H2_ := (Option.bind_some _ _).symm.trans H; rw [hy114]; with_reducible exact H2_) | (have H2_ := (Option.bind_some _ _).symm.trans H; with_reducible exact H2_) | with_reducible exact H | (rw [hy114]; exact H) | exact H
                                    have Ny114 := Aside0.mk hy114
                                    clear hy114
                                    have H' := Aside0.mk H
                                    clear H
                                    have p111 : 0 ≤ (x19_1 : Int) := of_decide_eq_true (by first | (with_reducible assumption) | assumption)
                                    have q111 : x19_1 < (x6_2.length : Int) := of_decide_eq_true (by first | (with_reducible assumption) | assumption)
                                    obtain ⟨ad111, A111_0, c111_0, e111, hx111_0, hl111_0, hi111_0⟩ := at_L2 (Kd.S_reads' HO_6.out).2.2 x19_1 p111 q111
                                    obtain rfl : (⟨go13, 0, none⟩ : Addr) = ad111 := (by injection e111)
                                    obtain ⟨ce111, hce111, hMe111, hcc111⟩ := Kd.S_get HO_6.out [] x19_1 p111 (by first | exact q111 | exact of_decide_eq_true (by first | (with_reducible assumption) | assumption) | (have e_ := (Kd.S_reads' HO_6.out).1; omega))
                                    obtain ⟨ve111_0, rfl, ge111_0⟩ := hMe111
                                    have hv111_0 := hcc111 0 _ rfl
                                    rw [Nat.add_zero, show ((Kd.slice 3 (Kd.int .i64))).sz = 1 from rfl, Nat.mul_one] at hv111_0
                                    replace hv111_0 := Option.some.inj (hv111_0.symm.trans hx111_0)
                                    rw [hv111_0] at ge111_0
                                    have HL111_0 := Aside0.mk (show Kd.R (Kd.int .i64) 3 _ _ _ _ (rd_L2 x6_2 x19_1) from ge111_0)
                                    clear hv111_0 ge111_0
                                    have HX111_0 := Aside0.mk hx111_0
                                    clear hcc111 hce111
                                    (first | simp only [add_plain] at hx111_0 | simp only [add_at] at hx111_0 | simp only [Addr.add, Nat.zero_add] at hx111_0 | skip)
                                    have HR111_0 := Aside0.mk hi111_0
                                    have HC111_0 := Aside0.mk hl111_0
                                    clear hi111_0 hl111_0
                                    replace p111 := eq_true p111
                                    replace q111 := eq_true q111
                                    have p24 : 0 ≤ (x32_2 : Int) := of_decide_eq_true (by first | (with_reducible assumption) | assumption)
                                    have q24 : (x32_2 : Int) < (((rd_L2 x6_2 x19_1).length : Int) : Int) := of_decide_eq_true (by first | (with_reducible assumption) | assumption)
                                    obtain ⟨go24, co24, eo24, gb24, gl24, cl24, HG24⟩ := Kd.R_form HL111_0.out (by omega)
                                    (first | cases eo24 | (injection eo24 with ea_ en_ ec_; (first | subst ea_ | (injection ea_ with ea_; subst ea_)); subst ec_; clear en_))
                                    have GB24 := Aside0.mk gb24
                                    have GG24 := Aside0.mk HG24
                                    clear gb24 gl24 HG24
                                    obtain ⟨hx24_0, hf24_0⟩ := Kd.R_celln 0 HL111_0.out (x32_2 : Int) p24 q24
                                    replace p24 := eq_true p24
                                    replace q24 := eq_true q24
                                    have hq25 : (x19_1 : Int) < (x6_2.length : Int) := (by have h_ : (x19_1 : Int) < ((x6_2.length : Int) : Int) := of_decide_eq_true (by first | (with_reducible assumption) | assumption); first | exact h_ | (have e_ := (Kd.S_reads' HO_6.out).1; omega) | simpa only [List.length_set, List.length_set] using h_)
                                    obtain ⟨oki25, ce25, hcl25, hM25, hcc25, hok25, hbk25⟩ := Kd.S_borrow HO_6.out [] (x19_1 : Int) (of_decide_eq_true (by first | (with_reducible assumption) | assumption)) (by first | exact hq25 | (have e_ := (Kd.S_reads' HO_6.out).1; omega))
                                    obtain ⟨ve25_0, rfl, ge25_0⟩ := hM25
                                    have hv25 := hcc25 0 _ rfl
                                    rw [Nat.add_zero, show ((Kd.slice 3 (Kd.int .i64))).sz = 1 from rfl, Nat.mul_one] at hv25
                                    replace hv25 := Option.some.inj (hv25.symm.trans HX111_0.out)
                                    subst hv25
                                    (try clear hcc25); (try clear hcl25)
                                    replace ge25_0 := (show Kd.R (Kd.int .i64) 3 _ _ _ _ (rd_L2 x6_2 x19_1) from ge25_0)
                                    have HP25 := Kd.R_putg ge25_0 (x32_2 : Int) 1000000000
                                    go_wp2_with (first | ((with_reducible refine gate_store (t := 3) (p := 43) rfl ?_); refine store_event (t := 3) (p := 43) (v := ?vo_w26) (w1 := (wr.setCell ⟨go24, (x32_2 : Int).toNat, none⟩ (.int .i64 1000000000))) ?hg ?ho ?hn ?hr ?_; (case ho => rfl); (case hg => rfl); (case hn => rfl); (case hr => first | (go_simp; done) | (go_simp; rfl)); intro w26 hw; have hg : wr.grownBy w26 (some go24) := (by rw [hw]; exact HP25.2); have hz_ : Kd.R (Kd.int .i64) 3 w26 w.heap.size oki25 (.slice (some ⟨go24, 0, none⟩) (rd_L2 x6_2 x19_1).length c111_0) y112 := (by rw [hw, Ny112.out]; exact HP25.1); have hp_ : Kd.S (Kd.slice 3 (Kd.int .i64)) 30 w26 w.heap.size (fun _ => True) (.slice (some ⟨go13, 0, none⟩) x6_2.length co7) y114 := (by rw [Ny114.out]; exact hbk25 hg (fun k_ e_ => by injection e_ with e_; subst e_; exact ge25_0.1 _ rfl) (Kd.M_row hz_)); have hm_ := Kd.R_mono hz_ hok25; clear HP25 hbk25; have n0_ := Aside0.mk (hp_); have n1_ := Aside0.mk ((by rw [hw]; exact below_set (HB.out) GB24.out : Below w.heap.size w w26)); have n2_ := Aside0.mk (hm_); have n3_ := Aside0.mk ((Kd.R_reads' hm_).2.1); clear HO_6; clear HB; clear HL111_0; have HO_6 := n0_; have HB := n1_; have HL145 := n2_; have HC113 := n3_; clear n0_ n1_ n2_ n3_; clear hg hw hp_ hz_ hm_ hok25))
                                    (try simp only [← hl6_2])
                                    go_roundg k2
                                    case measure => have := HK1.out; have := HK2.out; omega
                                    case rel => exact ⟨(y114), (wrap64 (x32_2 + 1)), (by first | rfl | (simp; done) | (simp [*]; done)), H', ⟨by have := HK1.out; have := HK2.out; omega⟩, ⟨by (try simp only [hl6_1]); (try simp only [hl6_2]); (with_reducible repeat (first | apply Kd.S_alloc | apply Kd.S_drewN | apply Kd.S_drew)); exact HO_6.out⟩, ⟨by repeat (first | (with_reducible first | exact HB.out | apply below_alloc | apply pw_below_drewN | apply below_drew1) | exact HB.out)⟩⟩
                                  · rw [if_neg c23] at H
                                    exact absurd H (by simp)
                                · rw [if_neg c22] at H
                                  exact absurd H (by simp)
                              · rw [if_neg c21] at H
                                exact absurd H (by simp)
                            · rw [if_neg c20] at H
                              exact absurd H (by simp)
                        · rw [if_neg c18] at H
                          have c18b0 : decide (x32_2 < ((rd_L2 y109 x19_1).length : Int)) = false := decide_eq_false c18
                          clear c18
                          have H' := Aside0.mk H
                          clear H
                          go_wp2
                          (try simp only [← hl6_1, ← hl6_2])
                          go_roundg k2
                          case measure => have := HK1.out; have := HK2.out; omega
                          case rel => exact ⟨(x6_2), (wrap64 (x19_1 + 1)), (by first | rfl | (simp; done) | (simp [*]; done)), H', ⟨by have := HK1.out; have := HK2.out; omega⟩, ⟨by (try simp only [hl6_1]); (try simp only [hl6_2]); (with_reducible repeat (first | apply Kd.S_alloc | apply Kd.S_drewN | apply Kd.S_drew)); exact HO_6.out⟩, ⟨by repeat (first | (with_reducible first | exact HB.out | apply below_alloc | apply pw_below_drewN | apply below_drew1) | exact HB.out)⟩⟩
                  · rw [if_neg c12] at H
                    exact absurd H (by simp)
                · rw [if_neg c11] at H
                  exact absurd H (by simp)
              · rw [if_neg c10] at H
                exact absurd H (by simp)
            · rw [if_neg c9] at H
              exact absurd H (by simp)
          · rw [if_neg c8] at H
            have c8b0 : decide (x19_1 < (y103.length : Int)) = false := decide_eq_false c8
            first | (rw [hl6_2] at c8b0) | (rw [hl6_1] at c8b0) | (rw [hl111_0] at c8b0) | (rw [hl110_0] at c8b0) | skip
            clear c8
            have H' := Aside0.mk H
            clear H
            go_wp2
            go_loopg [48] k1 (fun kq v48 w' => ∃ (x6_2 : List (List Int)) (x48_2 : Int), v48 = .int .i64 x48_2 ∧ Aside0 (chron_most.l2 kq a0 x6_2 l1 (l1.length : Int) x48_2 = some (r1, r2)) ∧ Aside0 (kq ≤ k1) ∧ Aside0 (Kd.S (Kd.slice 3 (Kd.int .i64)) 30 w' w.heap.size (fun _ => True) (.slice Ao7 x6_1.length co7) x6_2) ∧ Aside0 (Below w.heap.size w w'))
            case atStart => exact ⟨(x6_1), (0), (by first | rfl | (simp; done) | (simp [*]; done)), H', ⟨Nat.le_refl _⟩, ⟨by (try simp only [hl6_1]); (with_reducible repeat (first | apply Kd.S_alloc | apply Kd.S_drewN | apply Kd.S_drew)); exact HO_6.out⟩, ⟨by repeat (first | (with_reducible first | exact HB.out | apply below_alloc | apply pw_below_drewN | apply below_drew1) | exact HB.out)⟩⟩
            case round =>
              clear H'
              try clear c1
              try clear p1
              try clear q1
              try clear hx1
              try clear c2
              try clear p2
              try clear q2
              try clear hx2
              try clear hf2
              try clear c3
              try clear c3b0
              try clear c3b1
              try clear c4
              try clear c4b0
              try clear c4b1
              try clear p6
              try clear c8
              try clear c8b0
              try clear c9
              try clear c9b0
              try clear c9b1
              try clear c10
              try clear c10b0
              try clear c10b1
              try clear c11
              try clear c11b0
              try clear p11
              try clear q11
              try clear hx11
              try clear c12
              try clear c12b0
              try clear c13
              try clear p13
              try clear q13
              try clear hx13
              try clear hf13
              try clear c16
              try clear hx16
              try clear hf16
              try clear c18
              try clear c18b0
              try clear c19
              try clear c19b0
              try clear c19b1
              try clear c20
              try clear c20b0
              try clear c21
              try clear c21b0
              try clear c22
              try clear c22b0
              try clear c23
              try clear c23b0
              try clear p24
              try clear q24
              try clear hx24
              try clear hf24
              try clear c25
              try clear q25
              try clear hx110_0
              try clear hx111_0
              try clear hx13_0
              try clear hx16_0
              try clear hx24_0
              try clear p1
              try clear p11
              try clear p110
              try clear p111
              try clear p13
              try clear p2
              try clear p24
              try clear q1
              try clear q11
              try clear q110
              try clear q111
              try clear q13
              try clear q24
              obtain ⟨x6_2, x48_2, rfl, HA, HK2, HO_6, HB⟩ := hrel
              have hl6_2 := (Kd.S_reads' HO_6.out).1
              rw [hl6_2] at HO_6
              (try simp only [hl6_2])
              cases gk with
              | zero => exact absurd HA.out (by simp [chron_most.l2])
              | succ k2 =>
                have H := HA.out
                clear HA
                simp only [chron_most.l2] at H
                by_cases c27 : x48_2 < (l1.length : Int)
                · rw [if_pos c27] at H
                  have c27b0 : decide (x48_2 < (l1.length : Int)) = true := decide_eq_true c27
                  clear c27
                  by_cases c28 : 0 ≤ x48_2
                  · rw [if_pos c28] at H
                    have c28b0 : decide (0 ≤ x48_2) = true := decide_eq_true c28
                    clear c28
                    by_cases c29 : x48_2 < (l1.length : Int)
                    · rw [if_pos c29] at H
                      have c29b0 : decide (x48_2 < (l1.length : Int)) = true := decide_eq_true c29
                      clear c29
                      by_cases c30 : 0 ≤ ((rd_T43 l1 x48_2).f0)
                      · rw [if_pos c30] at H
                        have c30b0 : decide (0 ≤ ((rd_T43 l1 x48_2).f0)) = true := decide_eq_true c30
                        clear c30
                        by_cases c31 : ((rd_T43 l1 x48_2).f0) < (x6_2.length : Int)
                        · rw [if_pos c31] at H
                          have c31b0 : decide (((rd_T43 l1 x48_2).f0) < (x6_2.length : Int)) = true := decide_eq_true c31
                          clear c31
                          by_cases c32 : 0 ≤ ((rd_T43 l1 x48_2).f1)
                          · rw [if_pos c32] at H
                            have c32b0 : decide (0 ≤ ((rd_T43 l1 x48_2).f1)) = true := decide_eq_true c32
                            clear c32
                            by_cases c33 : ((rd_T43 l1 x48_2).f1) < ((rd_L2 x6_2 ((rd_T43 l1 x48_2).f0)).length : Int)
                            · rw [if_pos c33] at H
                              have c33b0 : decide (((rd_T43 l1 x48_2).f1) < ((rd_L2 x6_2 ((rd_T43 l1 x48_2).f0)).length : Int)) = true := decide_eq_true c33
                              clear c33
                              obtain ⟨ji34, hji34⟩ : ∃ j_ : Int, (mn (rd (rd_L2 x6_2 ((rd_T43 l1 x48_2).f0)) ((rd_T43 l1 x48_2).f1)) ((rd_T43 l1 x48_2).f3)) = j_ := ⟨_, rfl⟩
                              replace H : ((some (x6_2.set (((rd_T43 l1 x48_2).f0) : Int).toNat ((rd_L2 x6_2 ((rd_T43 l1 x48_2).f0)).set (((rd_T43 l1 x48_2).f1) : Int).toNat (ji34)) : List (List Int))).bind fun y122 => (if ((rd_T43 l1 x48_2).f1) < (x6_2.length : Int) then (if ((rd_T43 l1 x48_2).f0) < ((rd_L2 y122 ((rd_T43 l1 x48_2).f1)).length : Int) then (chron_most.l2 k2 a0 (y122.set (((rd_T43 l1 x48_2).f1) : Int).toNat ((rd_L2 y122 ((rd_T43 l1 x48_2).f1)).set (((rd_T43 l1 x48_2).f0) : Int).toNat (mn (rd (rd_L2 y122 ((rd_T43 l1 x48_2).f1)) ((rd_T43 l1 x48_2).f0)) (wrap64 (-((rd_T43 l1 x48_2).f2)))))) l1 (l1.length : Int) (wrap64 (x48_2 + 1))) else (none)) else (none))) = some (r1, r2) := by first | (rw [hji34] at H; exact H) | (simp only [hji34] at H ⊢; exact H)
                              have hji34_ : (if ((rd_T43 l1 x48_2).f3) < (rd (rd_L2 x6_2 ((rd_T43 l1 x48_2).f0)) ((rd_T43 l1 x48_2).f1)) then ((rd_T43 l1 x48_2).f3) else (rd (rd_L2 x6_2 ((rd_T43 l1 x48_2).f0)) ((rd_T43 l1 x48_2).f1))) = ji34 := hji34
                              obtain ⟨y120, hy120⟩ : ∃ y_ : List Int, y_ = ((rd_L2 x6_2 ((rd_T43 l1 x48_2).f0)).set (((rd_T43 l1 x48_2).f1) : Int).toNat (ji34)) := ⟨_, rfl⟩
                              replace H : ((some (x6_2.set (((rd_T43 l1 x48_2).f0) : Int).toNat y120 : List (List Int))).bind fun y122 => (if ((rd_T43 l1 x48_2).f1) < (x6_2.length : Int) then (if ((rd_T43 l1 x48_2).f0) < ((rd_L2 y122 ((rd_T43 l1 x48_2).f1)).length : Int) then (chron_most.l2 k2 a0 (y122.set (((rd_T43 l1 x48_2).f1) : Int).toNat ((rd_L2 y122 ((rd_T43 l1 x48_2).f1)).set (((rd_T43 l1 x48_2).f0) : Int).toNat (mn (rd (rd_L2 y122 ((rd_T43 l1 x48_2).f1)) ((rd_T43 l1 x48_2).f0)) (wrap64 (-((rd_T43 l1 x48_2).f2)))))) l1 (l1.length : Int) (wrap64 (x48_2 + 1))) else (none)) else (none))) = some (r1, r2) := by first | (rw [hy120]; with_reducible exact H) | (have H2_ := (Option.bind_some _ _).symm.trans H; rw [hy120]; with_reducible exact H2_) | (have H2_ := (Option.bind_some _ _).symm.trans H; with_reducible exact H2_) | with_reducible exact H | (rw [hy120]; exact H) | exact H
                              have Ny120 := Aside0.mk hy120
                              clear hy120
                              obtain ⟨y122, hy122⟩ : ∃ y_ : List (List Int), y_ = (x6_2.set (((rd_T43 l1 x48_2).f0) : Int).toNat y120) := ⟨_, rfl⟩
                              replace H : (if ((rd_T43 l1 x48_2).f1) < (x6_2.length : Int) then (if ((rd_T43 l1 x48_2).f0) < ((rd_L2 y122 ((rd_T43 l1 x48_2).f1)).length : Int) then (chron_most.l2 k2 a0 (y122.set (((rd_T43 l1 x48_2).f1) : Int).toNat ((rd_L2 y122 ((rd_T43 l1 x48_2).f1)).set (((rd_T43 l1 x48_2).f0) : Int).toNat (mn (rd (rd_L2 y122 ((rd_T43 l1 x48_2).f1)) ((rd_T43 l1 x48_2).f0)) (wrap64 (-((rd_T43 l1 x48_2).f2)))))) l1 (l1.length : Int) (wrap64 (x48_2 + 1))) else (none)) else (none)) = some (r1, r2) := by first | (rw [hy122]; with_reducible exact H) | (have H2_ := (Option.bind_some _ _).symm.trans H; rw [hy122]; with_reducible exact H2_) | (have H2_ := (Option.bind_some _ _).symm.trans H; with_reducible exact H2_) | with_reducible exact H | (rw [hy122]; exact H) | exact H
                              have Ny122 := Aside0.mk hy122
                              clear hy122
                              by_cases c36 : ((rd_T43 l1 x48_2).f1) < (x6_2.length : Int)
                              · rw [if_pos c36] at H
                                have c36b0 : decide (((rd_T43 l1 x48_2).f1) < (x6_2.length : Int)) = true := decide_eq_true c36
                                clear c36
                                by_cases c37 : ((rd_T43 l1 x48_2).f0) < ((rd_L2 y122 ((rd_T43 l1 x48_2).f1)).length : Int)
                                · rw [if_pos c37] at H
                                  have c37b0 : decide (((rd_T43 l1 x48_2).f0) < ((rd_L2 y122 ((rd_T43 l1 x48_2).f1)).length : Int)) = true := decide_eq_true c37
                                  clear c37
                                  obtain ⟨ji38, hji38⟩ : ∃ j_ : Int, (mn (rd (rd_L2 y122 ((rd_T43 l1 x48_2).f1)) ((rd_T43 l1 x48_2).f0)) (wrap64 (-((rd_T43 l1 x48_2).f2)))) = j_ := ⟨_, rfl⟩
                                  replace H : (chron_most.l2 k2 a0 (y122.set (((rd_T43 l1 x48_2).f1) : Int).toNat ((rd_L2 y122 ((rd_T43 l1 x48_2).f1)).set (((rd_T43 l1 x48_2).f0) : Int).toNat (ji38))) l1 (l1.length : Int) (wrap64 (x48_2 + 1))) = some (r1, r2) := by first | (rw [hji38] at H; exact H) | (simp only [hji38] at H ⊢; exact H)
                                  have hji38_ : (if (wrap64 (-((rd_T43 l1 x48_2).f2))) < (rd (rd_L2 y122 ((rd_T43 l1 x48_2).f1)) ((rd_T43 l1 x48_2).f0)) then (wrap64 (-((rd_T43 l1 x48_2).f2))) else (rd (rd_L2 y122 ((rd_T43 l1 x48_2).f1)) ((rd_T43 l1 x48_2).f0))) = ji38 := hji38
                                  obtain ⟨y126, hy126⟩ : ∃ y_ : List Int, y_ = ((rd_L2 y122 ((rd_T43 l1 x48_2).f1)).set (((rd_T43 l1 x48_2).f0) : Int).toNat (ji38)) := ⟨_, rfl⟩
                                  replace H : (chron_most.l2 k2 a0 (y122.set (((rd_T43 l1 x48_2).f1) : Int).toNat y126) l1 (l1.length : Int) (wrap64 (x48_2 + 1))) = some (r1, r2) := by first | (rw [hy126]; with_reducible exact H) | (have H2_ := (Option.bind_some _ _).symm.trans H; rw [hy126]; with_reducible exact H2_) | (have H2_ := (Option.bind_some _ _).symm.trans H; with_reducible exact H2_) | with_reducible exact H | (rw [hy126]; exact H) | exact H
                                  have Ny126 := Aside0.mk hy126
                                  clear hy126
                                  obtain ⟨y128, hy128⟩ : ∃ y_ : List (List Int), y_ = (y122.set (((rd_T43 l1 x48_2).f1) : Int).toNat y126) := ⟨_, rfl⟩
                                  replace H : (chron_most.l2 k2 a0 y128 l1 (l1.length : Int) (wrap64 (x48_2 + 1))) = some (r1, r2) := by first | (rw [hy128]; with_reducible exact H) | (have H2_ := (Option.bind_some _ _).symm.trans H; rw [hy128]; with_reducible exact H2_) | (have H2_ := (Option.bind_some _ _).symm.trans H; with_reducible exact H2_) | with_reducible exact H | (rw [hy128]; exact H) | exact H
                                  have Ny128 := Aside0.mk hy128
                                  clear hy128
                                  have H' := Aside0.mk H
                                  clear H
                                  have p115 : 0 ≤ (x48_2 : Int) := of_decide_eq_true (by first | (with_reducible assumption) | assumption)
                                  have q115 : x48_2 < (l1.length : Int) := of_decide_eq_true (by first | (with_reducible assumption) | assumption)
                                  obtain ⟨ad115, e115, hx115_0, hx115_1, hx115_2, hx115_3⟩ := at_T43 HR1.out x48_2 p115 q115
                                  cases e115
                                  replace hx115_0 := (HB.out.cell (World.block_lt_of_cell? w _ hx115_0)).trans hx115_0
                                  replace hx115_1 := (HB.out.cell (World.block_lt_of_cell? w _ hx115_1)).trans hx115_1
                                  replace hx115_2 := (HB.out.cell (World.block_lt_of_cell? w _ hx115_2)).trans hx115_2
                                  replace hx115_3 := (HB.out.cell (World.block_lt_of_cell? w _ hx115_3)).trans hx115_3
                                  replace p115 := eq_true p115
                                  replace q115 := eq_true q115
                                  try go_wp2_with (first | ((with_reducible refine gate_dst (N := 10) rfl ?_); refine box_event ?hg (N := 10) ?hd (cs := #[.int .i64 0, .int .i64 0, .int .i64 0, .int .i64 0]) (t := 43) ?hr ?_; (case hd => rfl); (case hg => rfl); (case hr => first | (go_simp; done) | (go_simp; rfl)); intro gb116 hg w40 hbox hb; have n0_ := Aside0.mk (Kd.S_below (by (with_reducible repeat (first | apply Kd.S_alloc | apply Kd.S_drewN | apply Kd.S_drew)); exact HO_6.out) hb); have n1_ := Aside0.mk (below_step (by repeat (first | (with_reducible first | exact HB.out | apply below_alloc | apply pw_below_drewN | apply below_drew1) | exact HB.out)) hb); have n2_ := Aside0.mk (hbox); have n3_ := Aside0.mk ((by rw [hg]; exact (below_size (by repeat (first | (with_reducible first | exact HB.out | apply below_alloc | apply pw_below_drewN | apply below_drew1) | exact HB.out))) : w.heap.size ≤ gb116)); have n4_ := Aside0.mk ((by rw [hg]; exact (below_size (by repeat (first | (with_reducible first | exact HB.out | apply below_alloc | apply pw_below_drewN | apply below_drew1) | exact HB.out))) : w.heap.size ≤ gb116)); clear HO_6; clear HB; have HO_6 := n0_; have HB := n1_; have BK116 := n2_; have GW116 := n3_; have GE116 := n4_; clear n0_ n1_ n2_ n3_ n4_; clear hb hbox hg; have hcz41_0 : w40.cell? ⟨gb116, 0, none⟩ = some (.int .i64 0) := (blk_cell BK116.out 0).trans rfl; have hcz41_1 : w40.cell? ⟨gb116, 1, none⟩ = some (.int .i64 0) := (blk_cell BK116.out 1).trans rfl; have hcz41_2 : w40.cell? ⟨gb116, 2, none⟩ = some (.int .i64 0) := (blk_cell BK116.out 2).trans rfl; have hcz41_3 : w40.cell? ⟨gb116, 3, none⟩ = some (.int .i64 0) := (blk_cell BK116.out 3).trans rfl; have hfz41_0 := blk_frozen BK116.out 0; have hfz41_1 := blk_frozen BK116.out 1; have hfz41_2 := blk_frozen BK116.out 2; have hfz41_3 := blk_frozen BK116.out 3))
                                  have n0_ : Aside0 (Kd.S (Kd.slice 3 (Kd.int .i64)) 30 ((((w40.setCell ⟨gb116, 0, none⟩ (.int .i64 ((rd_T43 l1 x48_2).f0))).setCell ⟨gb116, 1, none⟩ (.int .i64 ((rd_T43 l1 x48_2).f1))).setCell ⟨gb116, 2, none⟩ (.int .i64 ((rd_T43 l1 x48_2).f2))).setCell ⟨gb116, 3, none⟩ (.int .i64 ((rd_T43 l1 x48_2).f3))) w.heap.size (fun _ => True) (.slice Ao7 x6_2.length co7) x6_2) := ⟨by (with_reducible repeat (first | apply Kd.S_alloc | apply Kd.S_drewN | apply Kd.S_drew)); exact Kd.S_mono (Kd.S_far (p := ⟨gb116, 3, none⟩) (Kd.S_far (p := ⟨gb116, 2, none⟩) (Kd.S_far (p := ⟨gb116, 1, none⟩) (Kd.S_far (p := ⟨gb116, 0, none⟩) (Kd.S_types HO_6.out BK116.out (by decide)) (fun _ hk => hk.2) (.int .i64 ((rd_T43 l1 x48_2).f0))) (fun _ hk => hk.2) (.int .i64 ((rd_T43 l1 x48_2).f1))) (fun _ hk => hk.2) (.int .i64 ((rd_T43 l1 x48_2).f2))) (fun _ hk => hk.2) (.int .i64 ((rd_T43 l1 x48_2).f3))) (fun _ hk => trivial)⟩
                                  have n1_ : Aside0 (((((w40.setCell ⟨gb116, 0, none⟩ (.int .i64 ((rd_T43 l1 x48_2).f0))).setCell ⟨gb116, 1, none⟩ (.int .i64 ((rd_T43 l1 x48_2).f1))).setCell ⟨gb116, 2, none⟩ (.int .i64 ((rd_T43 l1 x48_2).f2))).setCell ⟨gb116, 3, none⟩ (.int .i64 ((rd_T43 l1 x48_2).f3))).heap[gb116]? = some (.cells #[.int .i64 ((rd_T43 l1 x48_2).f0), .int .i64 ((rd_T43 l1 x48_2).f1), .int .i64 ((rd_T43 l1 x48_2).f2), .int .i64 ((rd_T43 l1 x48_2).f3)] 43 (0, 0))) := ⟨by (with_reducible repeat (first | refine blk_drewN ?_ _ | refine blk_drew ?_ | refine blk_alloc ?_ _)); refine blk_put (cs := #[.int .i64 ((rd_T43 l1 x48_2).f0), .int .i64 ((rd_T43 l1 x48_2).f1), .int .i64 ((rd_T43 l1 x48_2).f2), .int .i64 0]) ?_ 3 _ rfl; (with_reducible repeat (first | refine blk_drewN ?_ _ | refine blk_drew ?_ | refine blk_alloc ?_ _)); refine blk_put (cs := #[.int .i64 ((rd_T43 l1 x48_2).f0), .int .i64 ((rd_T43 l1 x48_2).f1), .int .i64 0, .int .i64 0]) ?_ 2 _ rfl; (with_reducible repeat (first | refine blk_drewN ?_ _ | refine blk_drew ?_ | refine blk_alloc ?_ _)); refine blk_put (cs := #[.int .i64 ((rd_T43 l1 x48_2).f0), .int .i64 0, .int .i64 0, .int .i64 0]) ?_ 1 _ rfl; (with_reducible repeat (first | refine blk_drewN ?_ _ | refine blk_drew ?_ | refine blk_alloc ?_ _)); refine blk_put (cs := #[.int .i64 0, .int .i64 0, .int .i64 0, .int .i64 0]) ?_ 0 _ rfl; (with_reducible repeat (first | refine blk_drewN ?_ _ | refine blk_drew ?_ | refine blk_alloc ?_ _)); exact BK116.out⟩
                                  have n2_ : Aside0 (Below w.heap.size w ((((w40.setCell ⟨gb116, 0, none⟩ (.int .i64 ((rd_T43 l1 x48_2).f0))).setCell ⟨gb116, 1, none⟩ (.int .i64 ((rd_T43 l1 x48_2).f1))).setCell ⟨gb116, 2, none⟩ (.int .i64 ((rd_T43 l1 x48_2).f2))).setCell ⟨gb116, 3, none⟩ (.int .i64 ((rd_T43 l1 x48_2).f3)))) := ⟨by repeat (first | (with_reducible first | exact HB.out | apply below_alloc | apply pw_below_drewN | apply below_drew1 | refine below_set ?_ GE116.out) | exact HB.out)⟩
                                  (try clear HO_6)
                                  (try clear BK116)
                                  (try clear HB)
                                  generalize ((((w40.setCell ⟨gb116, 0, none⟩ (.int .i64 ((rd_T43 l1 x48_2).f0))).setCell ⟨gb116, 1, none⟩ (.int .i64 ((rd_T43 l1 x48_2).f1))).setCell ⟨gb116, 2, none⟩ (.int .i64 ((rd_T43 l1 x48_2).f2))).setCell ⟨gb116, 3, none⟩ (.int .i64 ((rd_T43 l1 x48_2).f3))) = w42 at n0_ n1_ n2_ ⊢
                                  have HO_6 := n0_
                                  have BK116 := n1_
                                  have HB := n2_
                                  clear n0_ n1_ n2_
                                  have n0_ := Aside0.mk (Kd.S_drew HO_6.out)
                                  have n1_ := Aside0.mk (blk_drew BK116.out)
                                  have n2_ := Aside0.mk (below_drew1 HB.out)
                                  clear HO_6
                                  clear BK116
                                  clear HB
                                  have HO_6 := n0_
                                  have BK116 := n1_
                                  have HB := n2_
                                  clear n0_ n1_ n2_
                                  have p117 : 0 ≤ (((rd_T43 l1 x48_2).f0) : Int) := of_decide_eq_true (by first | (with_reducible assumption) | assumption)
                                  have q117 : ((rd_T43 l1 x48_2).f0) < (x6_2.length : Int) := of_decide_eq_true (by first | (with_reducible assumption) | assumption)
                                  obtain ⟨ad117, A117_0, c117_0, e117, hx117_0, hl117_0, hi117_0⟩ := at_L2 (Kd.S_reads' HO_6.out).2.2 ((rd_T43 l1 x48_2).f0) p117 q117
                                  cases e117
                                  obtain ⟨ce117, hce117, hMe117, hcc117⟩ := Kd.S_get HO_6.out [] ((rd_T43 l1 x48_2).f0) p117 (by first | exact q117 | exact of_decide_eq_true (by first | (with_reducible assumption) | assumption) | (have e_ := (Kd.S_reads' HO_6.out).1; omega))
                                  obtain ⟨ve117_0, rfl, ge117_0⟩ := hMe117
                                  have hv117_0 := hcc117 0 _ rfl
                                  rw [Nat.add_zero, show ((Kd.slice 3 (Kd.int .i64))).sz = 1 from rfl, Nat.mul_one] at hv117_0
                                  replace hv117_0 := Option.some.inj (hv117_0.symm.trans hx117_0)
                                  rw [hv117_0] at ge117_0
                                  have HL117_0 := Aside0.mk (show Kd.R (Kd.int .i64) 3 _ _ _ _ (rd_L2 x6_2 ((rd_T43 l1 x48_2).f0)) from ge117_0)
                                  clear hv117_0 ge117_0
                                  have HX117_0 := Aside0.mk hx117_0
                                  clear hcc117 hce117
                                  have HR117_0 := Aside0.mk hi117_0
                                  have HC117_0 := Aside0.mk hl117_0
                                  clear hi117_0 hl117_0
                                  replace p117 := eq_true p117
                                  replace q117 := eq_true q117
                                  have p118 : 0 ≤ (((rd_T43 l1 x48_2).f0) : Int) := of_decide_eq_true (by first | (with_reducible assumption) | assumption)
                                  have q118 : ((rd_T43 l1 x48_2).f0) < (x6_2.length : Int) := of_decide_eq_true (by first | (with_reducible assumption) | assumption)
                                  obtain ⟨ad118, A118_0, c118_0, e118, hx118_0, hl118_0, hi118_0⟩ := at_L2 (Kd.S_reads' HO_6.out).2.2 ((rd_T43 l1 x48_2).f0) p118 q118
                                  obtain rfl : ad117 = ad118 := (by injection e118)
                                  obtain ⟨ce118, hce118, hMe118, hcc118⟩ := Kd.S_get HO_6.out [] ((rd_T43 l1 x48_2).f0) p118 (by first | exact q118 | exact of_decide_eq_true (by first | (with_reducible assumption) | assumption) | (have e_ := (Kd.S_reads' HO_6.out).1; omega))
                                  obtain ⟨ve118_0, rfl, ge118_0⟩ := hMe118
                                  have hv118_0 := hcc118 0 _ rfl
                                  rw [Nat.add_zero, show ((Kd.slice 3 (Kd.int .i64))).sz = 1 from rfl, Nat.mul_one] at hv118_0
                                  replace hv118_0 := Option.some.inj (hv118_0.symm.trans hx118_0)
                                  rw [hv118_0] at ge118_0
                                  have HL118_0 := Aside0.mk (show Kd.R (Kd.int .i64) 3 _ _ _ _ (rd_L2 x6_2 ((rd_T43 l1 x48_2).f0)) from ge118_0)
                                  clear hv118_0 ge118_0
                                  have HX118_0 := Aside0.mk hx118_0
                                  clear hcc118 hce118
                                  have HR118_0 := Aside0.mk hi118_0
                                  have HC118_0 := Aside0.mk hl118_0
                                  clear hi118_0 hl118_0
                                  replace p118 := eq_true p118
                                  replace q118 := eq_true q118
                                  have ea_ := Option.some.inj (hx117_0.symm.trans hx118_0)
                                  injection ea_ with ea_ en_ ec_
                                  subst ea_
                                  subst ec_
                                  clear en_
                                  have p119 : 0 ≤ (((rd_T43 l1 x48_2).f1) : Int) := of_decide_eq_true (by first | (with_reducible assumption) | assumption)
                                  have q119 : ((rd_T43 l1 x48_2).f1) < ((rd_L2 x6_2 ((rd_T43 l1 x48_2).f0)).length : Int) := of_decide_eq_true (by first | (with_reducible assumption) | assumption)
                                  obtain ⟨ad119, e119, hx119_0⟩ := Kd.at_int (by repeat (first | (with_reducible exact HR118_0.out) | (with_reducible refine Kd.C_alloc ?_ _) | (with_reducible refine Kd.C_drewN ?_ _) | (with_reducible refine Kd.C_drew ?_) | exact HR118_0.out)) ((rd_T43 l1 x48_2).f1) p119 q119
                                  cases e119
                                  replace p119 := eq_true p119
                                  replace q119 := eq_true q119
                                  have p35 : 0 ≤ (((rd_T43 l1 x48_2).f1) : Int) := of_decide_eq_true (by first | (with_reducible assumption) | assumption)
                                  have q35 : (((rd_T43 l1 x48_2).f1) : Int) < (((rd_L2 x6_2 ((rd_T43 l1 x48_2).f0)).length : Int) : Int) := of_decide_eq_true (by first | (with_reducible assumption) | assumption)
                                  obtain ⟨go35, co35, eo35, gb35, gl35, cl35, HG35⟩ := Kd.R_form HL117_0.out (by omega)
                                  (first | cases eo35 | (injection eo35 with ea_ en_ ec_; (first | subst ea_ | (injection ea_ with ea_; subst ea_)); subst ec_; clear en_))
                                  have GB35 := Aside0.mk gb35
                                  have GG35 := Aside0.mk HG35
                                  clear gb35 gl35 HG35
                                  (first | simp only [add_plain] at hx119_0 | skip)
                                  obtain ⟨hx35_0, hf35_0⟩ := Kd.R_celln 0 HL117_0.out (((rd_T43 l1 x48_2).f1) : Int) p35 q35
                                  replace p35 := eq_true p35
                                  replace q35 := eq_true q35
                                  have hq44 : (((rd_T43 l1 x48_2).f0) : Int) < (x6_2.length : Int) := (by have h_ : (((rd_T43 l1 x48_2).f0) : Int) < ((x6_2.length : Int) : Int) := of_decide_eq_true (by first | (with_reducible assumption) | assumption); first | exact h_ | (have e_ := (Kd.S_reads' HO_6.out).1; omega) | simpa only [List.length_set, List.length_set] using h_)
                                  obtain ⟨oki44, ce44, hcl44, hM44, hcc44, hok44, hbk44⟩ := Kd.S_borrow HO_6.out [] (((rd_T43 l1 x48_2).f0) : Int) (of_decide_eq_true (by first | (with_reducible assumption) | assumption)) (by first | exact hq44 | (have e_ := (Kd.S_reads' HO_6.out).1; omega))
                                  obtain ⟨ve44_0, rfl, ge44_0⟩ := hM44
                                  have hv44 := hcc44 0 _ rfl
                                  rw [Nat.add_zero, show ((Kd.slice 3 (Kd.int .i64))).sz = 1 from rfl, Nat.mul_one] at hv44
                                  replace hv44 := Option.some.inj (hv44.symm.trans HX117_0.out)
                                  subst hv44
                                  (try clear hcc44); (try clear hcl44)
                                  replace ge44_0 := (show Kd.R (Kd.int .i64) 3 _ _ _ _ (rd_L2 x6_2 ((rd_T43 l1 x48_2).f0)) from ge44_0)
                                  have HP44 := Kd.R_putg ge44_0 (((rd_T43 l1 x48_2).f1) : Int) ji34
                                  rw [← Ny120.out] at HP44
                                  have HS44 := hbk44 HP44.2 (fun k_ e_ => by injection e_ with e_; subst e_; exact ge44_0.1 _ rfl) (x' := y120) (Kd.M_row HP44.1)
                                  rw [← Ny122.out] at HS44
                                  have HQ44 := Aside0.mk HS44
                                  clear HP44 HS44 hbk44 hok44
                                  refine start_ (n := 21) (S := fun w' => w'.cell? ⟨gb116, 0, none⟩ = some (.int .i64 ((rd_T43 l1 x48_2).f0)) ∧ w'.cell? ⟨gb116, 1, none⟩ = some (.int .i64 ((rd_T43 l1 x48_2).f1)) ∧ w'.cell? ⟨gb116, 2, none⟩ = some (.int .i64 ((rd_T43 l1 x48_2).f2)) ∧ w'.cell? ⟨gb116, 3, none⟩ = some (.int .i64 ((rd_T43 l1 x48_2).f3)) ∧ w'.cell? (ad117.add (((rd_T43 l1 x48_2).f0)).toNat) = some (.slice (some ⟨go35, 0, none⟩) (rd_L2 x6_2 ((rd_T43 l1 x48_2).f0)).length c117_0) ∧ w'.cell? (ad117.add (((rd_T43 l1 x48_2).f0)).toNat) = some (.slice (some ⟨go35, 0, none⟩) (rd_L2 x6_2 ((rd_T43 l1 x48_2).f0)).length c117_0) ∧ w'.cell? ⟨go35, (((rd_T43 l1 x48_2).f1)).toNat, none⟩ = some (.int .i64 (rd (rd_L2 x6_2 ((rd_T43 l1 x48_2).f0)) ((rd_T43 l1 x48_2).f1)))) (ds := [20]) #[false, false, false, false, false, false, false, false, false, false, false, false, false, false, false, false, false, false, false, false, false] (by kernel_rfl) rfl rfl ⟨(blk_cell BK116.out 0).trans rfl, (blk_cell BK116.out 1).trans rfl, (blk_cell BK116.out 2).trans rfl, (blk_cell BK116.out 3).trans rfl, hx117_0, hx118_0, hx119_0⟩ (fun hHeld => ?_); refine with_tabW chron_most.tab16 chron_most.bits16 (fun HT_ HW_ => ?_)
                                  generalize w42.drew = w43 at HO_6 BK116 HB GG35 HL117_0 HL118_0 HQ44 HR117_0 HR118_0 HX117_0 HX118_0 hf35_0 hx117_0 hx118_0 hx119_0 hx35_0 hHeld ⊢
                                  refine pure_ (i := 0) (N := some 52) (v := ?_) (a' := ?_) #[true, false, false, false, false, false, false, false, false, false, false, false, false, false, false, false, false, false, false, false, false] rfl rfl (any_of HT_.out (by kernel_rfl)) (fun _ _ _ h => h) (Or.inl ⟨by rfl, ?_⟩) ?_ ?_
                                  rotate_left
                                  · intro w'
                                    go_simp
                                    with_reducible rfl
                                  rotate_left
                                  · simp only [Act.put, List.setIfInBounds_toArray, List.set_cons_zero, List.set_cons_succ, i64_w, i32_w]
                                    rfl
                                  refine pure_ (i := 1) (N := some 53) (v := ?_) (a' := ?_) #[true, true, false, false, false, false, false, false, false, false, false, false, false, false, false, false, false, false, false, false, false] rfl rfl (any_of HT_.out (by kernel_rfl)) (fun _ _ _ h => h) (Or.inl ⟨by rfl, ?_⟩) ?_ ?_
                                  rotate_left
                                  · intro w'
                                    go_simp
                                    with_reducible rfl
                                  rotate_left
                                  · simp only [Act.put, List.setIfInBounds_toArray, List.set_cons_zero, List.set_cons_succ, i64_w, i32_w]
                                    rfl
                                  refine pure_ (i := 5) (N := some 57) (v := ?_) (a' := ?_) #[true, true, false, false, false, true, false, false, false, false, false, false, false, false, false, false, false, false, false, false, false] rfl rfl (any_of HT_.out (by kernel_rfl)) (fun _ _ _ h => h) (Or.inl ⟨by rfl, ?_⟩) ?_ ?_
                                  rotate_left
                                  · intro w'
                                    go_simp
                                    with_reducible rfl
                                  rotate_left
                                  · simp only [Act.put, List.setIfInBounds_toArray, List.set_cons_zero, List.set_cons_succ, i64_w, i32_w]
                                    rfl
                                  refine pure_ (i := 7) (N := some 59) (v := ?_) (a' := ?_) #[true, true, false, false, false, true, false, true, false, false, false, false, false, false, false, false, false, false, false, false, false] rfl rfl (any_of HT_.out (by kernel_rfl)) (fun _ _ _ h => h) (Or.inl ⟨by rfl, ?_⟩) ?_ ?_
                                  rotate_left
                                  · intro w'
                                    go_simp
                                    with_reducible rfl
                                  rotate_left
                                  · simp only [Act.put, List.setIfInBounds_toArray, List.set_cons_zero, List.set_cons_succ, i64_w, i32_w]
                                    rfl
                                  refine pure_ (i := 8) (N := some 60) (v := ?_) (a' := ?_) #[true, true, false, false, false, true, false, true, true, false, false, false, false, false, false, false, false, false, false, false, false] rfl rfl (any_of HT_.out (by kernel_rfl)) (fun _ _ _ h => h) (Or.inl ⟨by rfl, ?_⟩) ?_ ?_
                                  rotate_left
                                  · intro w'
                                    go_simp
                                    with_reducible rfl
                                  rotate_left
                                  · simp only [Act.put, List.setIfInBounds_toArray, List.set_cons_zero, List.set_cons_succ, i64_w, i32_w]
                                    rfl
                                  refine pure_ (i := 12) (N := some 64) (v := ?_) (a' := ?_) #[true, true, false, false, false, true, false, true, true, false, false, false, true, false, false, false, false, false, false, false, false] rfl rfl (any_of HT_.out (by kernel_rfl)) (fun _ _ _ h => h) (Or.inl ⟨by rfl, ?_⟩) ?_ ?_
                                  rotate_left
                                  · intro w'
                                    go_simp
                                    with_reducible rfl
                                  rotate_left
                                  · simp only [Act.put, List.setIfInBounds_toArray, List.set_cons_zero, List.set_cons_succ, i64_w, i32_w]
                                    rfl
                                  refine pure_ (i := 16) (N := some 68) (v := ?_) (a' := ?_) #[true, true, false, false, false, true, false, true, true, false, false, false, true, false, false, false, true, false, false, false, false] rfl rfl (any_of HT_.out (by kernel_rfl)) (fun _ _ _ h => h) (Or.inl ⟨by rfl, ?_⟩) ?_ ?_
                                  rotate_left
                                  · intro w'
                                    go_simp
                                    with_reducible rfl
                                  rotate_left
                                  · simp only [Act.put, List.setIfInBounds_toArray, List.set_cons_zero, List.set_cons_succ, i64_w, i32_w]
                                    rfl
                                  refine take_ (i := 2) (N := some 54) (v := ?_) (a' := ?_) #[true, true, true, false, false, true, false, true, true, false, false, false, true, false, false, false, true, false, false, false, false] rfl rfl (take_ofW HT_.out HW_.out (by kernel_rfl)) (fun _ _ _ h => h) (Or.inl ⟨by rfl, ?_⟩) hHeld ?_ ?_
                                  rotate_left
                                  · rintro w' ⟨s0, s1, s2, s3, s4, s5, s6⟩
                                    go_simp
                                    with_reducible rfl
                                  rotate_left
                                  · simp only [Act.put, List.setIfInBounds_toArray, List.set_cons_zero, List.set_cons_succ, i64_w, i32_w]
                                    rfl
                                  refine pure_ (i := 3) (N := some 55) (v := ?_) (a' := ?_) #[true, true, true, true, false, true, false, true, true, false, false, false, true, false, false, false, true, false, false, false, false] rfl rfl (any_of HT_.out (by kernel_rfl)) (fun _ _ _ h => h) (Or.inl ⟨by rfl, ?_⟩) ?_ ?_
                                  rotate_left
                                  · intro w'
                                    go_simp
                                    with_reducible rfl
                                  rotate_left
                                  · simp only [Act.put, List.setIfInBounds_toArray, List.set_cons_zero, List.set_cons_succ, i64_w, i32_w]
                                    rfl
                                  refine take_ (i := 4) (N := some 56) (v := ?_) (a' := ?_) #[true, true, true, true, true, true, false, true, true, false, false, false, true, false, false, false, true, false, false, false, false] rfl rfl (take_ofW HT_.out HW_.out (by kernel_rfl)) (fun _ _ _ h => h) (Or.inl ⟨by rfl, ?_⟩) hHeld ?_ ?_
                                  rotate_left
                                  · rintro w' ⟨s0, s1, s2, s3, s4, s5, s6⟩
                                    go_simp
                                    with_reducible rfl
                                  rotate_left
                                  · simp only [Act.put, List.setIfInBounds_toArray, List.set_cons_zero, List.set_cons_succ, i64_w, i32_w]
                                    rfl
                                  refine take_ (i := 6) (N := some 58) (v := ?_) (a' := ?_) #[true, true, true, true, true, true, true, true, true, false, false, false, true, false, false, false, true, false, false, false, false] rfl rfl (take_ofW HT_.out HW_.out (by kernel_rfl)) (fun _ _ _ h => h) (Or.inl ⟨by rfl, ?_⟩) hHeld ?_ ?_
                                  rotate_left
                                  · rintro w' ⟨s0, s1, s2, s3, s4, s5, s6⟩
                                    go_simp
                                    with_reducible rfl
                                  rotate_left
                                  · simp only [Act.put, List.setIfInBounds_toArray, List.set_cons_zero, List.set_cons_succ, i64_w, i32_w]
                                    rfl
                                  refine take_ (i := 9) (N := some 61) (v := ?_) (a' := ?_) #[true, true, true, true, true, true, true, true, true, true, false, false, true, false, false, false, true, false, false, false, false] rfl rfl (take_ofW HT_.out HW_.out (by kernel_rfl)) (fun _ _ _ h => h) (Or.inl ⟨by rfl, ?_⟩) hHeld ?_ ?_
                                  rotate_left
                                  · rintro w' ⟨s0, s1, s2, s3, s4, s5, s6⟩
                                    go_simp
                                    with_reducible rfl
                                  rotate_left
                                  · simp only [Act.put, List.setIfInBounds_toArray, List.set_cons_zero, List.set_cons_succ, i64_w, i32_w]
                                    rfl
                                  refine pure_ (i := 10) (N := some 62) (v := ?_) (a' := ?_) #[true, true, true, true, true, true, true, true, true, true, true, false, true, false, false, false, true, false, false, false, false] rfl rfl (any_of HT_.out (by kernel_rfl)) (fun _ _ _ h => h) (Or.inl ⟨by rfl, ?_⟩) ?_ ?_
                                  rotate_left
                                  · intro w'
                                    go_simp
                                    with_reducible rfl
                                  rotate_left
                                  · simp only [Act.put, List.setIfInBounds_toArray, List.set_cons_zero, List.set_cons_succ, i64_w, i32_w]
                                    rfl
                                  refine take_ (i := 11) (N := some 63) (v := ?_) (a' := ?_) #[true, true, true, true, true, true, true, true, true, true, true, true, true, false, false, false, true, false, false, false, false] rfl rfl (take_ofW HT_.out HW_.out (by kernel_rfl)) (fun _ _ _ h => h) (Or.inl ⟨by rfl, ?_⟩) hHeld ?_ ?_
                                  rotate_left
                                  · rintro w' ⟨s0, s1, s2, s3, s4, s5, s6⟩
                                    go_simp
                                    with_reducible rfl
                                  rotate_left
                                  · simp only [Act.put, List.setIfInBounds_toArray, List.set_cons_zero, List.set_cons_succ, i64_w, i32_w]
                                    rfl
                                  refine take_ (i := 13) (N := some 65) (v := ?_) (a' := ?_) #[true, true, true, true, true, true, true, true, true, true, true, true, true, true, false, false, true, false, false, false, false] rfl rfl (take_ofW HT_.out HW_.out (by kernel_rfl)) (fun _ _ _ h => h) (Or.inl ⟨by rfl, ?_⟩) hHeld ?_ ?_
                                  rotate_left
                                  · rintro w' ⟨s0, s1, s2, s3, s4, s5, s6⟩
                                    go_simp
                                    with_reducible rfl
                                  rotate_left
                                  · simp only [Act.put, List.setIfInBounds_toArray, List.set_cons_zero, List.set_cons_succ, i64_w, i32_w]
                                    rfl
                                  refine pure_ (i := 14) (N := some 66) (v := ?_) (a' := ?_) #[true, true, true, true, true, true, true, true, true, true, true, true, true, true, true, false, true, false, false, false, false] rfl rfl (any_of HT_.out (by kernel_rfl)) (fun _ _ _ h => h) (Or.inl ⟨by rfl, ?_⟩) ?_ ?_
                                  rotate_left
                                  · intro w'
                                    go_simp
                                    with_reducible rfl
                                  rotate_left
                                  · simp only [Act.put, List.setIfInBounds_toArray, List.set_cons_zero, List.set_cons_succ, i64_w, i32_w]
                                    rfl
                                  refine take_ (i := 15) (N := some 67) (v := ?_) (a' := ?_) #[true, true, true, true, true, true, true, true, true, true, true, true, true, true, true, true, true, false, false, false, false] rfl rfl (take_ofW HT_.out HW_.out (by kernel_rfl)) (fun _ _ _ h => h) (Or.inl ⟨by rfl, ?_⟩) hHeld ?_ ?_
                                  rotate_left
                                  · rintro w' ⟨s0, s1, s2, s3, s4, s5, s6⟩
                                    go_simp
                                    with_reducible rfl
                                  rotate_left
                                  · simp only [Act.put, List.setIfInBounds_toArray, List.set_cons_zero, List.set_cons_succ, i64_w, i32_w]
                                    rfl
                                  refine take_ (i := 17) (N := some 69) (v := ?_) (a' := ?_) #[true, true, true, true, true, true, true, true, true, true, true, true, true, true, true, true, true, true, false, false, false] rfl rfl (take_ofW HT_.out HW_.out (by kernel_rfl)) (fun _ _ _ h => h) (Or.inl ⟨by rfl, ?_⟩) hHeld ?_ ?_
                                  rotate_left
                                  · rintro w' ⟨s0, s1, s2, s3, s4, s5, s6⟩
                                    go_simp
                                    with_reducible rfl
                                  rotate_left
                                  · simp only [Act.put, List.setIfInBounds_toArray, List.set_cons_zero, List.set_cons_succ, i64_w, i32_w]
                                    rfl
                                  refine pure_ (i := 18) (N := some 70) (v := ?_) (a' := ?_) #[true, true, true, true, true, true, true, true, true, true, true, true, true, true, true, true, true, true, true, false, false] rfl rfl (any_of HT_.out (by kernel_rfl)) (fun _ _ _ h => h) (Or.inl ⟨by rfl, ?_⟩) ?_ ?_
                                  rotate_left
                                  · intro w'
                                    go_simp
                                    with_reducible rfl
                                  rotate_left
                                  · simp only [Act.put, List.setIfInBounds_toArray, List.set_cons_zero, List.set_cons_succ, i64_w, i32_w]
                                    rfl
                                  refine pure_ (i := 19) (N := some 71) (v := ?_) (a' := ?_) #[true, true, true, true, true, true, true, true, true, true, true, true, true, true, true, true, true, true, true, true, false] rfl rfl (any_of HT_.out (by kernel_rfl)) (fun _ _ _ h => h) (Or.inl ⟨by rfl, ?_⟩) ?_ ?_
                                  rotate_left
                                  · intro w'
                                    go_simp
                                    with_reducible rfl
                                  rotate_left
                                  · simp only [Act.put, List.setIfInBounds_toArray, List.set_cons_zero, List.set_cons_succ, i64_w, i32_w]
                                    rfl
                                  refine last_ (i := 20) (N := none) #[true, true, true, true, true, true, true, true, true, true, true, true, true, true, true, true, true, true, true, true, true] rfl rfl (one_of HT_.out (by kernel_rfl)) (by decide) (fun K hK => ?_)
                                  refine skip_ (w1 := ?_) (by rfl) rfl ?_ ?_
                                  rotate_left
                                  · go_simp
                                    rfl
                                  refine hK.out _ _ ?_
                                  clear hK K
                                  refine done_ (done_of HT_.out (by kernel_rfl)) ?_
                                  try go_wp2
                                  have n0_ : Aside0 (Kd.S (Kd.slice 3 (Kd.int .i64)) 30 (w43.setCell ⟨go35, (((rd_T43 l1 x48_2).f1) : Int).toNat, none⟩ (.int .i64 ji34)) w.heap.size (fun _ => True) (.slice (some ad117) x6_2.length co7) y122) := ⟨by (with_reducible repeat (first | apply Kd.S_alloc | apply Kd.S_drewN | apply Kd.S_drew)); exact HQ44.out⟩
                                  have n1_ : Aside0 ((w43.setCell ⟨go35, (((rd_T43 l1 x48_2).f1) : Int).toNat, none⟩ (.int .i64 ji34)).heap[gb116]? = some (.cells #[.int .i64 ((rd_T43 l1 x48_2).f0), .int .i64 ((rd_T43 l1 x48_2).f1), .int .i64 ((rd_T43 l1 x48_2).f2), .int .i64 ((rd_T43 l1 x48_2).f3)] 43 (0, 0))) := ⟨by (with_reducible repeat (first | refine blk_drewN ?_ _ | refine blk_drew ?_ | refine blk_alloc ?_ _)); refine blk_far ?_ (by have h_ := Kd.R_ne HL117_0.out BK116.out (by decide); intro e_; exact h_ (by rw [e_]; rfl)) _; (with_reducible repeat (first | refine blk_drewN ?_ _ | refine blk_drew ?_ | refine blk_alloc ?_ _)); exact BK116.out⟩
                                  have n2_ : Aside0 (Below w.heap.size w (w43.setCell ⟨go35, (((rd_T43 l1 x48_2).f1) : Int).toNat, none⟩ (.int .i64 ji34))) := ⟨by repeat (first | (with_reducible first | exact HB.out | apply below_alloc | apply pw_below_drewN | apply below_drew1 | refine below_set ?_ GB35.out | refine below_set ?_ GE116.out) | exact HB.out)⟩
                                  (try clear HO_6)
                                  (try clear BK116)
                                  (try clear HB)
                                  generalize (w43.setCell ⟨go35, (((rd_T43 l1 x48_2).f1) : Int).toNat, none⟩ (.int .i64 ji34)) = w46 at n0_ n1_ n2_ ⊢
                                  have HO_6 := n0_
                                  have BK116 := n1_
                                  have HB := n2_
                                  clear n0_ n1_ n2_
                                  have n0_ := Aside0.mk (Kd.S_drew HO_6.out)
                                  have n1_ := Aside0.mk (blk_drew BK116.out)
                                  have n2_ := Aside0.mk (below_drew1 HB.out)
                                  clear HO_6
                                  clear BK116
                                  clear HB
                                  have HO_6 := n0_
                                  have BK116 := n1_
                                  have HB := n2_
                                  clear n0_ n1_ n2_
                                  have p123 : 0 ≤ (((rd_T43 l1 x48_2).f1) : Int) := of_decide_eq_true (by first | (with_reducible assumption) | assumption)
                                  have q123 : ((rd_T43 l1 x48_2).f1) < (y122.length : Int) := (by have h_ : (((rd_T43 l1 x48_2).f1) : Int) < ((x6_2.length : Int) : Int) := of_decide_eq_true (by first | (with_reducible assumption) | assumption); first | (have e_ := (Kd.S_reads' HO_6.out).1; omega) | simpa only [Ny122.out, List.length_set] using h_)
                                  have ql123 : ((((rd_T43 l1 x48_2).f1) : Int) < ((x6_2.length : Int) : Int)) = True := eq_true (of_decide_eq_true (by first | (with_reducible assumption) | assumption))
                                  obtain ⟨ad123, A123_0, c123_0, e123, hx123_0, hl123_0, hi123_0⟩ := at_L2 (Kd.S_reads' HO_6.out).2.2 ((rd_T43 l1 x48_2).f1) p123 q123
                                  obtain rfl : ad117 = ad123 := (by injection e123)
                                  obtain ⟨ce123, hce123, hMe123, hcc123⟩ := Kd.S_get HO_6.out [] ((rd_T43 l1 x48_2).f1) p123 (by first | exact q123 | exact of_decide_eq_true (by first | (with_reducible assumption) | assumption) | (have e_ := (Kd.S_reads' HO_6.out).1; omega))
                                  obtain ⟨ve123_0, rfl, ge123_0⟩ := hMe123
                                  have hv123_0 := hcc123 0 _ rfl
                                  rw [Nat.add_zero, show ((Kd.slice 3 (Kd.int .i64))).sz = 1 from rfl, Nat.mul_one] at hv123_0
                                  replace hv123_0 := Option.some.inj (hv123_0.symm.trans hx123_0)
                                  rw [hv123_0] at ge123_0
                                  have HL123_0 := Aside0.mk (show Kd.R (Kd.int .i64) 3 _ _ _ _ (rd_L2 y122 ((rd_T43 l1 x48_2).f1)) from ge123_0)
                                  clear hv123_0 ge123_0
                                  have HX123_0 := Aside0.mk hx123_0
                                  clear hcc123 hce123
                                  have HR123_0 := Aside0.mk hi123_0
                                  have HC123_0 := Aside0.mk hl123_0
                                  clear hi123_0 hl123_0
                                  replace p123 := eq_true p123
                                  replace q123 := eq_true q123
                                  have p124 : 0 ≤ (((rd_T43 l1 x48_2).f1) : Int) := of_decide_eq_true (by first | (with_reducible assumption) | assumption)
                                  have q124 : ((rd_T43 l1 x48_2).f1) < (y122.length : Int) := (by have h_ : (((rd_T43 l1 x48_2).f1) : Int) < ((x6_2.length : Int) : Int) := of_decide_eq_true (by first | (with_reducible assumption) | assumption); first | (have e_ := (Kd.S_reads' HO_6.out).1; omega) | simpa only [Ny122.out, List.length_set] using h_)
                                  have ql124 : ((((rd_T43 l1 x48_2).f1) : Int) < ((x6_2.length : Int) : Int)) = True := eq_true (of_decide_eq_true (by first | (with_reducible assumption) | assumption))
                                  obtain ⟨ad124, A124_0, c124_0, e124, hx124_0, hl124_0, hi124_0⟩ := at_L2 (Kd.S_reads' HO_6.out).2.2 ((rd_T43 l1 x48_2).f1) p124 q124
                                  obtain rfl : ad117 = ad124 := (by injection e124)
                                  obtain ⟨ce124, hce124, hMe124, hcc124⟩ := Kd.S_get HO_6.out [] ((rd_T43 l1 x48_2).f1) p124 (by first | exact q124 | exact of_decide_eq_true (by first | (with_reducible assumption) | assumption) | (have e_ := (Kd.S_reads' HO_6.out).1; omega))
                                  obtain ⟨ve124_0, rfl, ge124_0⟩ := hMe124
                                  have hv124_0 := hcc124 0 _ rfl
                                  rw [Nat.add_zero, show ((Kd.slice 3 (Kd.int .i64))).sz = 1 from rfl, Nat.mul_one] at hv124_0
                                  replace hv124_0 := Option.some.inj (hv124_0.symm.trans hx124_0)
                                  rw [hv124_0] at ge124_0
                                  have HL124_0 := Aside0.mk (show Kd.R (Kd.int .i64) 3 _ _ _ _ (rd_L2 y122 ((rd_T43 l1 x48_2).f1)) from ge124_0)
                                  clear hv124_0 ge124_0
                                  have HX124_0 := Aside0.mk hx124_0
                                  clear hcc124 hce124
                                  have HR124_0 := Aside0.mk hi124_0
                                  have HC124_0 := Aside0.mk hl124_0
                                  clear hi124_0 hl124_0
                                  replace p124 := eq_true p124
                                  replace q124 := eq_true q124
                                  have ea_ := Option.some.inj (hx123_0.symm.trans hx124_0)
                                  injection ea_ with ea_ en_ ec_
                                  subst ea_
                                  subst ec_
                                  clear en_
                                  have p125 : 0 ≤ (((rd_T43 l1 x48_2).f0) : Int) := of_decide_eq_true (by first | (with_reducible assumption) | assumption)
                                  have q125 : ((rd_T43 l1 x48_2).f0) < ((rd_L2 y122 ((rd_T43 l1 x48_2).f1)).length : Int) := of_decide_eq_true (by first | (with_reducible assumption) | assumption)
                                  obtain ⟨ad125, e125, hx125_0⟩ := Kd.at_int (by repeat (first | (with_reducible exact HR124_0.out) | (with_reducible refine Kd.C_alloc ?_ _) | (with_reducible refine Kd.C_drewN ?_ _) | (with_reducible refine Kd.C_drew ?_) | exact HR124_0.out)) ((rd_T43 l1 x48_2).f0) p125 q125
                                  cases e125
                                  replace p125 := eq_true p125
                                  replace q125 := eq_true q125
                                  have p39 : 0 ≤ (((rd_T43 l1 x48_2).f0) : Int) := of_decide_eq_true (by first | (with_reducible assumption) | assumption)
                                  have q39 : (((rd_T43 l1 x48_2).f0) : Int) < (((rd_L2 y122 ((rd_T43 l1 x48_2).f1)).length : Int) : Int) := of_decide_eq_true (by first | (with_reducible assumption) | assumption)
                                  obtain ⟨go39, co39, eo39, gb39, gl39, cl39, HG39⟩ := Kd.R_form HL123_0.out (by omega)
                                  (first | cases eo39 | (injection eo39 with ea_ en_ ec_; (first | subst ea_ | (injection ea_ with ea_; subst ea_)); subst ec_; clear en_))
                                  have GB39 := Aside0.mk gb39
                                  have GG39 := Aside0.mk HG39
                                  clear gb39 gl39 HG39
                                  (first | simp only [add_plain] at hx125_0 | skip)
                                  obtain ⟨hx39_0, hf39_0⟩ := Kd.R_celln 0 HL123_0.out (((rd_T43 l1 x48_2).f0) : Int) p39 q39
                                  replace p39 := eq_true p39
                                  replace q39 := eq_true q39
                                  have hq48 : (((rd_T43 l1 x48_2).f1) : Int) < (y122.length : Int) := (by have h_ : (((rd_T43 l1 x48_2).f1) : Int) < ((x6_2.length : Int) : Int) := of_decide_eq_true (by first | (with_reducible assumption) | assumption); first | exact h_ | (have e_ := (Kd.S_reads' HO_6.out).1; omega) | simpa only [Ny122.out, List.length_set] using h_)
                                  obtain ⟨oki48, ce48, hcl48, hM48, hcc48, hok48, hbk48⟩ := Kd.S_borrow HO_6.out [] (((rd_T43 l1 x48_2).f1) : Int) (of_decide_eq_true (by first | (with_reducible assumption) | assumption)) (by first | exact hq48 | (have e_ := (Kd.S_reads' HO_6.out).1; omega))
                                  obtain ⟨ve48_0, rfl, ge48_0⟩ := hM48
                                  have hv48 := hcc48 0 _ rfl
                                  rw [Nat.add_zero, show ((Kd.slice 3 (Kd.int .i64))).sz = 1 from rfl, Nat.mul_one] at hv48
                                  replace hv48 := Option.some.inj (hv48.symm.trans HX123_0.out)
                                  subst hv48
                                  (try clear hcc48); (try clear hcl48)
                                  replace ge48_0 := (show Kd.R (Kd.int .i64) 3 _ _ _ _ (rd_L2 y122 ((rd_T43 l1 x48_2).f1)) from ge48_0)
                                  have HP48 := Kd.R_putg ge48_0 (((rd_T43 l1 x48_2).f0) : Int) ji38
                                  rw [← Ny126.out] at HP48
                                  have HS48 := hbk48 HP48.2 (fun k_ e_ => by injection e_ with e_; subst e_; exact ge48_0.1 _ rfl) (x' := y126) (Kd.M_row HP48.1)
                                  rw [← Ny128.out] at HS48
                                  have HQ48 := Aside0.mk HS48
                                  clear HP48 HS48 hbk48 hok48
                                  refine start_ (n := 22) (S := fun w' => w'.cell? ⟨gb116, 0, none⟩ = some (.int .i64 ((rd_T43 l1 x48_2).f0)) ∧ w'.cell? ⟨gb116, 1, none⟩ = some (.int .i64 ((rd_T43 l1 x48_2).f1)) ∧ w'.cell? ⟨gb116, 2, none⟩ = some (.int .i64 ((rd_T43 l1 x48_2).f2)) ∧ w'.cell? ⟨gb116, 3, none⟩ = some (.int .i64 ((rd_T43 l1 x48_2).f3)) ∧ w'.cell? (ad117.add (((rd_T43 l1 x48_2).f1)).toNat) = some (.slice (some ⟨go39, 0, none⟩) (rd_L2 y122 ((rd_T43 l1 x48_2).f1)).length c123_0) ∧ w'.cell? (ad117.add (((rd_T43 l1 x48_2).f1)).toNat) = some (.slice (some ⟨go39, 0, none⟩) (rd_L2 y122 ((rd_T43 l1 x48_2).f1)).length c123_0) ∧ w'.cell? ⟨go39, (((rd_T43 l1 x48_2).f0)).toNat, none⟩ = some (.int .i64 (rd (rd_L2 y122 ((rd_T43 l1 x48_2).f1)) ((rd_T43 l1 x48_2).f0)))) (ds := [21]) #[false, false, false, false, false, false, false, false, false, false, false, false, false, false, false, false, false, false, false, false, false, false] (by kernel_rfl) rfl rfl ⟨(blk_cell BK116.out 0).trans rfl, (blk_cell BK116.out 1).trans rfl, (blk_cell BK116.out 2).trans rfl, (blk_cell BK116.out 3).trans rfl, hx123_0, hx124_0, hx125_0⟩ (fun hHeld => ?_); refine with_tabW chron_most.tab17 chron_most.bits17 (fun HT_ HW_ => ?_)
                                  generalize w46.drew = w47 at HO_6 BK116 HB GG39 HL123_0 HL124_0 HQ44 HQ48 HR123_0 HR124_0 HX123_0 HX124_0 hf39_0 hx123_0 hx124_0 hx125_0 hx39_0 hHeld ⊢
                                  refine pure_ (i := 0) (N := some 72) (v := ?_) (a' := ?_) #[true, false, false, false, false, false, false, false, false, false, false, false, false, false, false, false, false, false, false, false, false, false] rfl rfl (any_of HT_.out (by kernel_rfl)) (fun _ _ _ h => h) (Or.inl ⟨by rfl, ?_⟩) ?_ ?_
                                  rotate_left
                                  · intro w'
                                    go_simp
                                    with_reducible rfl
                                  rotate_left
                                  · simp only [Act.put, List.setIfInBounds_toArray, List.set_cons_zero, List.set_cons_succ, i64_w, i32_w]
                                    rfl
                                  refine pure_ (i := 1) (N := some 73) (v := ?_) (a' := ?_) #[true, true, false, false, false, false, false, false, false, false, false, false, false, false, false, false, false, false, false, false, false, false] rfl rfl (any_of HT_.out (by kernel_rfl)) (fun _ _ _ h => h) (Or.inl ⟨by rfl, ?_⟩) ?_ ?_
                                  rotate_left
                                  · intro w'
                                    go_simp
                                    with_reducible rfl
                                  rotate_left
                                  · simp only [Act.put, List.setIfInBounds_toArray, List.set_cons_zero, List.set_cons_succ, i64_w, i32_w]
                                    rfl
                                  refine pure_ (i := 5) (N := some 77) (v := ?_) (a' := ?_) #[true, true, false, false, false, true, false, false, false, false, false, false, false, false, false, false, false, false, false, false, false, false] rfl rfl (any_of HT_.out (by kernel_rfl)) (fun _ _ _ h => h) (Or.inl ⟨by rfl, ?_⟩) ?_ ?_
                                  rotate_left
                                  · intro w'
                                    go_simp
                                    with_reducible rfl
                                  rotate_left
                                  · simp only [Act.put, List.setIfInBounds_toArray, List.set_cons_zero, List.set_cons_succ, i64_w, i32_w]
                                    rfl
                                  refine pure_ (i := 7) (N := some 79) (v := ?_) (a' := ?_) #[true, true, false, false, false, true, false, true, false, false, false, false, false, false, false, false, false, false, false, false, false, false] rfl rfl (any_of HT_.out (by kernel_rfl)) (fun _ _ _ h => h) (Or.inl ⟨by rfl, ?_⟩) ?_ ?_
                                  rotate_left
                                  · intro w'
                                    go_simp
                                    with_reducible rfl
                                  rotate_left
                                  · simp only [Act.put, List.setIfInBounds_toArray, List.set_cons_zero, List.set_cons_succ, i64_w, i32_w]
                                    rfl
                                  refine pure_ (i := 8) (N := some 80) (v := ?_) (a' := ?_) #[true, true, false, false, false, true, false, true, true, false, false, false, false, false, false, false, false, false, false, false, false, false] rfl rfl (any_of HT_.out (by kernel_rfl)) (fun _ _ _ h => h) (Or.inl ⟨by rfl, ?_⟩) ?_ ?_
                                  rotate_left
                                  · intro w'
                                    go_simp
                                    with_reducible rfl
                                  rotate_left
                                  · simp only [Act.put, List.setIfInBounds_toArray, List.set_cons_zero, List.set_cons_succ, i64_w, i32_w]
                                    rfl
                                  refine pure_ (i := 12) (N := some 84) (v := ?_) (a' := ?_) #[true, true, false, false, false, true, false, true, true, false, false, false, true, false, false, false, false, false, false, false, false, false] rfl rfl (any_of HT_.out (by kernel_rfl)) (fun _ _ _ h => h) (Or.inl ⟨by rfl, ?_⟩) ?_ ?_
                                  rotate_left
                                  · intro w'
                                    go_simp
                                    with_reducible rfl
                                  rotate_left
                                  · simp only [Act.put, List.setIfInBounds_toArray, List.set_cons_zero, List.set_cons_succ, i64_w, i32_w]
                                    rfl
                                  refine pure_ (i := 16) (N := some 88) (v := ?_) (a' := ?_) #[true, true, false, false, false, true, false, true, true, false, false, false, true, false, false, false, true, false, false, false, false, false] rfl rfl (any_of HT_.out (by kernel_rfl)) (fun _ _ _ h => h) (Or.inl ⟨by rfl, ?_⟩) ?_ ?_
                                  rotate_left
                                  · intro w'
                                    go_simp
                                    with_reducible rfl
                                  rotate_left
                                  · simp only [Act.put, List.setIfInBounds_toArray, List.set_cons_zero, List.set_cons_succ, i64_w, i32_w]
                                    rfl
                                  refine take_ (i := 2) (N := some 74) (v := ?_) (a' := ?_) #[true, true, true, false, false, true, false, true, true, false, false, false, true, false, false, false, true, false, false, false, false, false] rfl rfl (take_ofW HT_.out HW_.out (by kernel_rfl)) (fun _ _ _ h => h) (Or.inl ⟨by rfl, ?_⟩) hHeld ?_ ?_
                                  rotate_left
                                  · rintro w' ⟨s0, s1, s2, s3, s4, s5, s6⟩
                                    go_simp
                                    with_reducible rfl
                                  rotate_left
                                  · simp only [Act.put, List.setIfInBounds_toArray, List.set_cons_zero, List.set_cons_succ, i64_w, i32_w]
                                    rfl
                                  refine pure_ (i := 3) (N := some 75) (v := ?_) (a' := ?_) #[true, true, true, true, false, true, false, true, true, false, false, false, true, false, false, false, true, false, false, false, false, false] rfl rfl (any_of HT_.out (by kernel_rfl)) (fun _ _ _ h => h) (Or.inl ⟨by rfl, ?_⟩) ?_ ?_
                                  rotate_left
                                  · intro w'
                                    go_simp
                                    with_reducible rfl
                                  rotate_left
                                  · simp only [Act.put, List.setIfInBounds_toArray, List.set_cons_zero, List.set_cons_succ, i64_w, i32_w]
                                    rfl
                                  refine take_ (i := 4) (N := some 76) (v := ?_) (a' := ?_) #[true, true, true, true, true, true, false, true, true, false, false, false, true, false, false, false, true, false, false, false, false, false] rfl rfl (take_ofW HT_.out HW_.out (by kernel_rfl)) (fun _ _ _ h => h) (Or.inl ⟨by rfl, ?_⟩) hHeld ?_ ?_
                                  rotate_left
                                  · rintro w' ⟨s0, s1, s2, s3, s4, s5, s6⟩
                                    go_simp
                                    with_reducible rfl
                                  rotate_left
                                  · simp only [Act.put, List.setIfInBounds_toArray, List.set_cons_zero, List.set_cons_succ, i64_w, i32_w]
                                    rfl
                                  refine take_ (i := 6) (N := some 78) (v := ?_) (a' := ?_) #[true, true, true, true, true, true, true, true, true, false, false, false, true, false, false, false, true, false, false, false, false, false] rfl rfl (take_ofW HT_.out HW_.out (by kernel_rfl)) (fun _ _ _ h => h) (Or.inl ⟨by rfl, ?_⟩) hHeld ?_ ?_
                                  rotate_left
                                  · rintro w' ⟨s0, s1, s2, s3, s4, s5, s6⟩
                                    go_simp
                                    with_reducible rfl
                                  rotate_left
                                  · simp only [Act.put, List.setIfInBounds_toArray, List.set_cons_zero, List.set_cons_succ, i64_w, i32_w]
                                    rfl
                                  refine take_ (i := 9) (N := some 81) (v := ?_) (a' := ?_) #[true, true, true, true, true, true, true, true, true, true, false, false, true, false, false, false, true, false, false, false, false, false] rfl rfl (take_ofW HT_.out HW_.out (by kernel_rfl)) (fun _ _ _ h => h) (Or.inl ⟨by rfl, ?_⟩) hHeld ?_ ?_
                                  rotate_left
                                  · rintro w' ⟨s0, s1, s2, s3, s4, s5, s6⟩
                                    go_simp
                                    with_reducible rfl
                                  rotate_left
                                  · simp only [Act.put, List.setIfInBounds_toArray, List.set_cons_zero, List.set_cons_succ, i64_w, i32_w]
                                    rfl
                                  refine pure_ (i := 10) (N := some 82) (v := ?_) (a' := ?_) #[true, true, true, true, true, true, true, true, true, true, true, false, true, false, false, false, true, false, false, false, false, false] rfl rfl (any_of HT_.out (by kernel_rfl)) (fun _ _ _ h => h) (Or.inl ⟨by rfl, ?_⟩) ?_ ?_
                                  rotate_left
                                  · intro w'
                                    go_simp
                                    with_reducible rfl
                                  rotate_left
                                  · simp only [Act.put, List.setIfInBounds_toArray, List.set_cons_zero, List.set_cons_succ, i64_w, i32_w]
                                    rfl
                                  refine take_ (i := 11) (N := some 83) (v := ?_) (a' := ?_) #[true, true, true, true, true, true, true, true, true, true, true, true, true, false, false, false, true, false, false, false, false, false] rfl rfl (take_ofW HT_.out HW_.out (by kernel_rfl)) (fun _ _ _ h => h) (Or.inl ⟨by rfl, ?_⟩) hHeld ?_ ?_
                                  rotate_left
                                  · rintro w' ⟨s0, s1, s2, s3, s4, s5, s6⟩
                                    go_simp
                                    with_reducible rfl
                                  rotate_left
                                  · simp only [Act.put, List.setIfInBounds_toArray, List.set_cons_zero, List.set_cons_succ, i64_w, i32_w]
                                    rfl
                                  refine take_ (i := 13) (N := some 85) (v := ?_) (a' := ?_) #[true, true, true, true, true, true, true, true, true, true, true, true, true, true, false, false, true, false, false, false, false, false] rfl rfl (take_ofW HT_.out HW_.out (by kernel_rfl)) (fun _ _ _ h => h) (Or.inl ⟨by rfl, ?_⟩) hHeld ?_ ?_
                                  rotate_left
                                  · rintro w' ⟨s0, s1, s2, s3, s4, s5, s6⟩
                                    go_simp
                                    with_reducible rfl
                                  rotate_left
                                  · simp only [Act.put, List.setIfInBounds_toArray, List.set_cons_zero, List.set_cons_succ, i64_w, i32_w]
                                    rfl
                                  refine pure_ (i := 14) (N := some 86) (v := ?_) (a' := ?_) #[true, true, true, true, true, true, true, true, true, true, true, true, true, true, true, false, true, false, false, false, false, false] rfl rfl (any_of HT_.out (by kernel_rfl)) (fun _ _ _ h => h) (Or.inl ⟨by rfl, ?_⟩) ?_ ?_
                                  rotate_left
                                  · intro w'
                                    go_simp
                                    with_reducible rfl
                                  rotate_left
                                  · simp only [Act.put, List.setIfInBounds_toArray, List.set_cons_zero, List.set_cons_succ, i64_w, i32_w]
                                    rfl
                                  refine take_ (i := 15) (N := some 87) (v := ?_) (a' := ?_) #[true, true, true, true, true, true, true, true, true, true, true, true, true, true, true, true, true, false, false, false, false, false] rfl rfl (take_ofW HT_.out HW_.out (by kernel_rfl)) (fun _ _ _ h => h) (Or.inl ⟨by rfl, ?_⟩) hHeld ?_ ?_
                                  rotate_left
                                  · rintro w' ⟨s0, s1, s2, s3, s4, s5, s6⟩
                                    go_simp
                                    with_reducible rfl
                                  rotate_left
                                  · simp only [Act.put, List.setIfInBounds_toArray, List.set_cons_zero, List.set_cons_succ, i64_w, i32_w]
                                    rfl
                                  refine take_ (i := 17) (N := some 89) (v := ?_) (a' := ?_) #[true, true, true, true, true, true, true, true, true, true, true, true, true, true, true, true, true, true, false, false, false, false] rfl rfl (take_ofW HT_.out HW_.out (by kernel_rfl)) (fun _ _ _ h => h) (Or.inl ⟨by rfl, ?_⟩) hHeld ?_ ?_
                                  rotate_left
                                  · rintro w' ⟨s0, s1, s2, s3, s4, s5, s6⟩
                                    go_simp
                                    with_reducible rfl
                                  rotate_left
                                  · simp only [Act.put, List.setIfInBounds_toArray, List.set_cons_zero, List.set_cons_succ, i64_w, i32_w]
                                    rfl
                                  refine pure_ (i := 18) (N := some 90) (v := ?_) (a' := ?_) #[true, true, true, true, true, true, true, true, true, true, true, true, true, true, true, true, true, true, true, false, false, false] rfl rfl (any_of HT_.out (by kernel_rfl)) (fun _ _ _ h => h) (Or.inl ⟨by rfl, ?_⟩) ?_ ?_
                                  rotate_left
                                  · intro w'
                                    go_simp
                                    with_reducible rfl
                                  rotate_left
                                  · simp only [Act.put, List.setIfInBounds_toArray, List.set_cons_zero, List.set_cons_succ, i64_w, i32_w]
                                    rfl
                                  refine pure_ (i := 19) (N := some 91) (v := ?_) (a' := ?_) #[true, true, true, true, true, true, true, true, true, true, true, true, true, true, true, true, true, true, true, true, false, false] rfl rfl (any_of HT_.out (by kernel_rfl)) (fun _ _ _ h => h) (Or.inl ⟨by rfl, ?_⟩) ?_ ?_
                                  rotate_left
                                  · intro w'
                                    go_simp
                                    with_reducible rfl
                                  rotate_left
                                  · simp only [Act.put, List.setIfInBounds_toArray, List.set_cons_zero, List.set_cons_succ, i64_w, i32_w]
                                    rfl
                                  refine pure_ (i := 20) (N := some 92) (v := ?_) (a' := ?_) #[true, true, true, true, true, true, true, true, true, true, true, true, true, true, true, true, true, true, true, true, true, false] rfl rfl (any_of HT_.out (by kernel_rfl)) (fun _ _ _ h => h) (Or.inl ⟨by rfl, ?_⟩) ?_ ?_
                                  rotate_left
                                  · intro w'
                                    go_simp
                                    with_reducible rfl
                                  rotate_left
                                  · simp only [Act.put, List.setIfInBounds_toArray, List.set_cons_zero, List.set_cons_succ, i64_w, i32_w]
                                    rfl
                                  refine last_ (i := 21) (N := none) #[true, true, true, true, true, true, true, true, true, true, true, true, true, true, true, true, true, true, true, true, true, true] rfl rfl (one_of HT_.out (by kernel_rfl)) (by decide) (fun K hK => ?_)
                                  refine skip_ (w1 := ?_) (by rfl) rfl ?_ ?_
                                  rotate_left
                                  · go_simp
                                    rfl
                                  refine hK.out _ _ ?_
                                  clear hK K
                                  refine done_ (done_of HT_.out (by kernel_rfl)) ?_
                                  try go_wp2
                                  (try simp only [← hl6_2])
                                  go_roundg k2
                                  case measure => have := HK1.out; have := HK2.out; omega
                                  case rel => exact ⟨(y128), (wrap64 (x48_2 + 1)), (by first | rfl | (simp; done) | (simp [*]; done)), H', ⟨by have := HK1.out; have := HK2.out; omega⟩, ⟨by (try simp only [hl6_1]); (try simp only [hl6_2]); (with_reducible repeat (first | apply Kd.S_alloc | apply Kd.S_drewN | apply Kd.S_drew)); exact HQ48.out⟩, ⟨by repeat (first | (with_reducible first | exact HB.out | apply below_alloc | apply pw_below_drewN | apply below_drew1 | refine below_set ?_ GB39.out | refine below_set ?_ GE116.out) | exact HB.out)⟩⟩
                                · rw [if_neg c37] at H
                                  exact absurd H (by simp)
                              · rw [if_neg c36] at H
                                exact absurd H (by simp)
                            · rw [if_neg c33] at H
                              exact absurd H (by simp)
                          · rw [if_neg c32] at H
                            exact absurd H (by simp)
                        · rw [if_neg c31] at H
                          exact absurd H (by simp)
                      · rw [if_neg c30] at H
                        exact absurd H (by simp)
                    · rw [if_neg c29] at H
                      exact absurd H (by simp)
                  · rw [if_neg c28] at H
                    exact absurd H (by simp)
                · rw [if_neg c27] at H
                  have c27b0 : decide (x48_2 < (l1.length : Int)) = false := decide_eq_false c27
                  clear c27
                  have H' := Aside0.mk H
                  clear H
                  go_wp2
                  go_loopg [95] k2 (fun kq v95 w' => ∃ (x6_3 : List (List Int)) (x95_3 : Int), v95 = .int .i64 x95_3 ∧ Aside0 (chron_most.l3 kq a0 x6_3 a0 x95_3 = some (r1, r2)) ∧ Aside0 (kq ≤ k2) ∧ Aside0 (Kd.S (Kd.slice 3 (Kd.int .i64)) 30 w' w.heap.size (fun _ => True) (.slice Ao7 x6_2.length co7) x6_3) ∧ Aside0 (Below w.heap.size w w'))
                  case atStart => exact ⟨(x6_2), (0), (by first | rfl | (simp; done) | (simp [*]; done)), H', ⟨Nat.le_refl _⟩, ⟨by (try simp only [hl6_1]); (try simp only [hl6_2]); (with_reducible repeat (first | apply Kd.S_alloc | apply Kd.S_drewN | apply Kd.S_drew)); exact HO_6.out⟩, ⟨by repeat (first | (with_reducible first | exact HB.out | apply below_alloc | apply pw_below_drewN | apply below_drew1) | exact HB.out)⟩⟩
                  case round =>
                    clear H'
                    try clear c1
                    try clear p1
                    try clear q1
                    try clear hx1
                    try clear c2
                    try clear p2
                    try clear c3
                    try clear p3
                    try clear q3
                    try clear hx3
                    try clear hf3
                    try clear c4
                    try clear q4
                    try clear p6
                    try clear c11
                    try clear p11
                    try clear q11
                    try clear hx11
                    try clear c12
                    try clear p12
                    try clear q12
                    try clear hx12
                    try clear c27
                    try clear c27b0
                    try clear c28
                    try clear c29
                    try clear c30
                    try clear c31
                    try clear c32
                    try clear c33
                    try clear p35
                    try clear q35
                    try clear hx35
                    try clear hf35
                    try clear c36
                    try clear c37
                    try clear c37b0
                    try clear p39
                    try clear q39
                    try clear hx39
                    try clear hf39
                    try clear c44
                    try clear q44
                    try clear c48
                    try clear q48
                    try clear hcz41_0
                    try clear hcz41_1
                    try clear hcz41_2
                    try clear hcz41_3
                    try clear hfz41_0
                    try clear hfz41_1
                    try clear hfz41_2
                    try clear hfz41_3
                    try clear hx115_0
                    try clear hx115_1
                    try clear hx115_2
                    try clear hx115_3
                    try clear hx117_0
                    try clear hx118_0
                    try clear hx119_0
                    try clear hx123_0
                    try clear hx124_0
                    try clear hx125_0
                    try clear hx35_0
                    try clear hx39_0
                    try clear p115
                    try clear p117
                    try clear p118
                    try clear p119
                    try clear p123
                    try clear p124
                    try clear p125
                    try clear p35
                    try clear p39
                    try clear q115
                    try clear q117
                    try clear q118
                    try clear q119
                    try clear q123
                    try clear q124
                    try clear q125
                    try clear q35
                    try clear q39
                    obtain ⟨x6_3, x95_3, rfl, HA, HK3, HO_6, HB⟩ := hrel
                    have hl6_3 := (Kd.S_reads' HO_6.out).1
                    rw [hl6_3] at HO_6
                    (try simp only [hl6_3])
                    cases gk with
                    | zero => exact absurd HA.out (by simp [chron_most.l3])
                    | succ k3 =>
                      have H := HA.out
                      clear HA
                      simp only [chron_most.l3] at H
                      by_cases c50 : x95_3 < a0
                      · rw [if_pos c50] at H
                        have c50b0 : decide (x95_3 < a0) = true := decide_eq_true c50
                        clear c50
                        have H' := Aside0.mk H
                        clear H
                        go_wp2
                        go_loopg [99] k3 (fun kq v99 w' => ∃ (x6_4 : List (List Int)) (x99_4 : Int), v99 = .int .i64 x99_4 ∧ Aside0 (chron_most.l4 kq a0 x6_4 x95_3 a0 x95_3 a0 x99_4 = some (r1, r2)) ∧ Aside0 (kq ≤ k3) ∧ Aside0 (Kd.S (Kd.slice 3 (Kd.int .i64)) 30 w' w.heap.size (fun _ => True) (.slice Ao7 x6_3.length co7) x6_4) ∧ Aside0 (Below w.heap.size w w'))
                        case atStart => exact ⟨(x6_3), (0), (by first | rfl | (simp; done) | (simp [*]; done)), H', ⟨Nat.le_refl _⟩, ⟨by (try simp only [hl6_1]); (try simp only [hl6_2]); (try simp only [hl6_3]); (with_reducible repeat (first | apply Kd.S_alloc | apply Kd.S_drewN | apply Kd.S_drew)); exact HO_6.out⟩, ⟨by repeat (first | (with_reducible first | exact HB.out | apply below_alloc | apply pw_below_drewN | apply below_drew1) | exact HB.out)⟩⟩
                        case round =>
                          clear H'
                          try clear c1
                          try clear p1
                          try clear q1
                          try clear hx1
                          try clear c2
                          try clear p2
                          try clear c3
                          try clear p3
                          try clear q3
                          try clear hx3
                          try clear hf3
                          try clear c4
                          try clear q4
                          try clear c5
                          try clear p6
                          try clear c11
                          try clear p11
                          try clear q11
                          try clear hx11
                          try clear c12
                          try clear p12
                          try clear q12
                          try clear hx12
                          try clear c27
                          try clear c27b0
                          try clear c28
                          try clear c29
                          try clear c30
                          try clear c31
                          try clear c32
                          try clear c33
                          try clear p35
                          try clear q35
                          try clear hx35
                          try clear hf35
                          try clear c36
                          try clear c37
                          try clear c37b0
                          try clear p39
                          try clear q39
                          try clear hx39
                          try clear hf39
                          try clear c44
                          try clear q44
                          try clear c48
                          try clear q48
                          try clear c50
                          try clear c50b0
                          try clear hcz41_0
                          try clear hcz41_1
                          try clear hcz41_2
                          try clear hcz41_3
                          try clear hfz41_0
                          try clear hfz41_1
                          try clear hfz41_2
                          try clear hfz41_3
                          try clear hx115_0
                          try clear hx115_1
                          try clear hx115_2
                          try clear hx115_3
                          try clear hx117_0
                          try clear hx118_0
                          try clear hx119_0
                          try clear hx123_0
                          try clear hx124_0
                          try clear hx125_0
                          try clear hx35_0
                          try clear hx39_0
                          try clear p1
                          try clear p11
                          try clear p115
                          try clear p117
                          try clear p118
                          try clear p119
                          try clear p12
                          try clear p123
                          try clear p124
                          try clear p125
                          try clear p2
                          try clear p3
                          try clear p35
                          try clear p39
                          try clear p6
                          try clear q1
                          try clear q11
                          try clear q115
                          try clear q117
                          try clear q118
                          try clear q119
                          try clear q12
                          try clear q123
                          try clear q124
                          try clear q125
                          try clear q3
                          try clear q35
                          try clear q39
                          try clear q4
                          try clear q44
                          try clear q48
                          obtain ⟨x6_4, x99_4, rfl, HA, HK4, HO_6, HB⟩ := hrel
                          have hl6_4 := (Kd.S_reads' HO_6.out).1
                          rw [hl6_4] at HO_6
                          (try simp only [hl6_4])
                          cases gk with
                          | zero => exact absurd HA.out (by simp [chron_most.l4])
                          | succ k4 =>
                            have H := HA.out
                            clear HA
                            simp only [chron_most.l4] at H
                            by_cases c51 : x99_4 < a0
                            · rw [if_pos c51] at H
                              have c51b0 : decide (x99_4 < a0) = true := decide_eq_true c51
                              clear c51
                              have H' := Aside0.mk H
                              clear H
                              go_wp2
                              go_loopg [103] k4 (fun kq v103 w' => ∃ (x6_5 : List (List Int)) (x103_5 : Int), v103 = .int .i64 x103_5 ∧ Aside0 (chron_most.l5 kq a0 x6_5 x95_3 x99_4 a0 x95_3 a0 x99_4 a0 x103_5 = some (r1, r2)) ∧ Aside0 (kq ≤ k4) ∧ Aside0 (Kd.S (Kd.slice 3 (Kd.int .i64)) 30 w' w.heap.size (fun _ => True) (.slice Ao7 x6_4.length co7) x6_5) ∧ Aside0 (Below w.heap.size w w'))
                              case atStart => exact ⟨(x6_4), (0), (by first | rfl | (simp; done) | (simp [*]; done)), H', ⟨Nat.le_refl _⟩, ⟨by (try simp only [hl6_1]); (try simp only [hl6_2]); (try simp only [hl6_3]); (try simp only [hl6_4]); (with_reducible repeat (first | apply Kd.S_alloc | apply Kd.S_drewN | apply Kd.S_drew)); exact HO_6.out⟩, ⟨by repeat (first | (with_reducible first | exact HB.out | apply below_alloc | apply pw_below_drewN | apply below_drew1) | exact HB.out)⟩⟩
                              case round =>
                                clear H'
                                try clear c1
                                try clear p1
                                try clear q1
                                try clear hx1
                                try clear c2
                                try clear p2
                                try clear c3
                                try clear p3
                                try clear q3
                                try clear hx3
                                try clear hf3
                                try clear c4
                                try clear q4
                                try clear c5
                                try clear p6
                                try clear c11
                                try clear p11
                                try clear q11
                                try clear hx11
                                try clear c12
                                try clear p12
                                try clear q12
                                try clear hx12
                                try clear c27
                                try clear c27b0
                                try clear c28
                                try clear c29
                                try clear c30
                                try clear c31
                                try clear c32
                                try clear c33
                                try clear p35
                                try clear q35
                                try clear hx35
                                try clear hf35
                                try clear c36
                                try clear c37
                                try clear c37b0
                                try clear p39
                                try clear q39
                                try clear hx39
                                try clear hf39
                                try clear c44
                                try clear q44
                                try clear c48
                                try clear q48
                                try clear c50
                                try clear c50b0
                                try clear c51
                                try clear c51b0
                                try clear hcz41_0
                                try clear hcz41_1
                                try clear hcz41_2
                                try clear hcz41_3
                                try clear hfz41_0
                                try clear hfz41_1
                                try clear hfz41_2
                                try clear hfz41_3
                                try clear hx115_0
                                try clear hx115_1
                                try clear hx115_2
                                try clear hx115_3
                                try clear hx117_0
                                try clear hx118_0
                                try clear hx119_0
                                try clear hx123_0
                                try clear hx124_0
                                try clear hx125_0
                                try clear hx35_0
                                try clear hx39_0
                                try clear p1
                                try clear p11
                                try clear p115
                                try clear p117
                                try clear p118
                                try clear p119
                                try clear p12
                                try clear p123
                                try clear p124
                                try clear p125
                                try clear p2
                                try clear p3
                                try clear p35
                                try clear p39
                                try clear p6
                                try clear q1
                                try clear q11
                                try clear q115
                                try clear q117
                                try clear q118
                                try clear q119
                                try clear q12
                                try clear q123
                                try clear q124
                                try clear q125
                                try clear q3
                                try clear q35
                                try clear q39
                                try clear q4
                                try clear q44
                                try clear q48
                                obtain ⟨x6_5, x103_5, rfl, HA, HK5, HO_6, HB⟩ := hrel
                                have hl6_5 := (Kd.S_reads' HO_6.out).1
                                rw [hl6_5] at HO_6
                                (try simp only [hl6_5])
                                cases gk with
                                | zero => exact absurd HA.out (by simp [chron_most.l5])
                                | succ k5 =>
                                  have H := HA.out
                                  clear HA
                                  simp only [chron_most.l5] at H
                                  by_cases c52 : x103_5 < a0
                                  · rw [if_pos c52] at H
                                    have c52b0 : decide (x103_5 < a0) = true := decide_eq_true c52
                                    clear c52
                                    by_cases c53 : 0 ≤ x99_4
                                    · rw [if_pos c53] at H
                                      have c53b0 : decide (0 ≤ x99_4) = true := decide_eq_true c53
                                      clear c53
                                      by_cases c54 : x99_4 < (x6_5.length : Int)
                                      · rw [if_pos c54] at H
                                        have c54b0 : decide (x99_4 < (x6_5.length : Int)) = true := decide_eq_true c54
                                        clear c54
                                        by_cases c55 : 0 ≤ x95_3
                                        · rw [if_pos c55] at H
                                          have c55b0 : decide (0 ≤ x95_3) = true := decide_eq_true c55
                                          clear c55
                                          by_cases c56 : x95_3 < ((rd_L2 x6_5 x99_4).length : Int)
                                          · rw [if_pos c56] at H
                                            have c56b0 : decide (x95_3 < ((rd_L2 x6_5 x99_4).length : Int)) = true := decide_eq_true c56
                                            clear c56
                                            by_cases c57 : (rd (rd_L2 x6_5 x99_4) x95_3) < 1000000000
                                            · rw [if_pos c57] at H
                                              have c57b0 : decide ((rd (rd_L2 x6_5 x99_4) x95_3) < 1000000000) = true := decide_eq_true c57
                                              clear c57
                                              by_cases c58 : x95_3 < (x6_5.length : Int)
                                              · rw [if_pos c58] at H
                                                have c58b0 : decide (x95_3 < (x6_5.length : Int)) = true := decide_eq_true c58
                                                clear c58
                                                by_cases c59 : 0 ≤ x103_5
                                                · rw [if_pos c59] at H
                                                  have c59b0 : decide (0 ≤ x103_5) = true := decide_eq_true c59
                                                  clear c59
                                                  by_cases c60 : x103_5 < ((rd_L2 x6_5 x95_3).length : Int)
                                                  · rw [if_pos c60] at H
                                                    have c60b0 : decide (x103_5 < ((rd_L2 x6_5 x95_3).length : Int)) = true := decide_eq_true c60
                                                    clear c60
                                                    by_cases c61 : (rd (rd_L2 x6_5 x95_3) x103_5) < 1000000000
                                                    · rw [if_pos c61] at H
                                                      have c61b0 : decide ((rd (rd_L2 x6_5 x95_3) x103_5) < 1000000000) = true := decide_eq_true c61
                                                      clear c61
                                                      by_cases c62 : x103_5 < ((rd_L2 x6_5 x99_4).length : Int)
                                                      · rw [if_pos c62] at H
                                                        have c62b0 : decide (x103_5 < ((rd_L2 x6_5 x99_4).length : Int)) = true := decide_eq_true c62
                                                        clear c62
                                                        obtain ⟨ji63, hji63⟩ : ∃ j_ : Int, (mn (rd (rd_L2 x6_5 x99_4) x103_5) (wrap64 ((rd (rd_L2 x6_5 x99_4) x95_3) + (rd (rd_L2 x6_5 x95_3) x103_5)))) = j_ := ⟨_, rfl⟩
                                                        replace H : (chron_most.l5 k5 a0 (x6_5.set (x99_4 : Int).toNat ((rd_L2 x6_5 x99_4).set (x103_5 : Int).toNat (ji63))) x95_3 x99_4 a0 x95_3 a0 x99_4 a0 (wrap64 (x103_5 + 1))) = some (r1, r2) := by first | (rw [hji63] at H; exact H) | (simp only [hji63] at H ⊢; exact H)
                                                        have hji63_ : (if (wrap64 ((rd (rd_L2 x6_5 x99_4) x95_3) + (rd (rd_L2 x6_5 x95_3) x103_5))) < (rd (rd_L2 x6_5 x99_4) x103_5) then (wrap64 ((rd (rd_L2 x6_5 x99_4) x95_3) + (rd (rd_L2 x6_5 x95_3) x103_5))) else (rd (rd_L2 x6_5 x99_4) x103_5)) = ji63 := hji63
                                                        obtain ⟨y140, hy140⟩ : ∃ y_ : List Int, y_ = ((rd_L2 x6_5 x99_4).set (x103_5 : Int).toNat (ji63)) := ⟨_, rfl⟩
                                                        replace H : (chron_most.l5 k5 a0 (x6_5.set (x99_4 : Int).toNat y140) x95_3 x99_4 a0 x95_3 a0 x99_4 a0 (wrap64 (x103_5 + 1))) = some (r1, r2) := by first | (rw [hy140]; with_reducible exact H) | (have H2_ := (Option.bind_some _ _).symm.trans H; rw [hy140]; with_reducible exact H2_) | (have H2_ := (Option.bind_some _ _).symm.trans H; with_reducible exact H2_) | with_reducible exact H | (rw [hy140]; exact H) | exact H
                                                        have Ny140 := Aside0.mk hy140
                                                        clear hy140
                                                        obtain ⟨y142, hy142⟩ : ∃ y_ : List (List Int), y_ = (x6_5.set (x99_4 : Int).toNat y140) := ⟨_, rfl⟩
                                                        replace H : (chron_most.l5 k5 a0 y142 x95_3 x99_4 a0 x95_3 a0 x99_4 a0 (wrap64 (x103_5 + 1))) = some (r1, r2) := by first | (rw [hy142]; with_reducible exact H) | (have H2_ := (Option.bind_some _ _).symm.trans H; rw [hy142]; with_reducible exact H2_) | (have H2_ := (Option.bind_some _ _).symm.trans H; with_reducible exact H2_) | with_reducible exact H | (rw [hy142]; exact H) | exact H
                                                        have Ny142 := Aside0.mk hy142
                                                        clear hy142
                                                        have H' := Aside0.mk H
                                                        clear H
                                                        have p129 : 0 ≤ (x99_4 : Int) := of_decide_eq_true (by first | (with_reducible assumption) | assumption)
                                                        have q129 : x99_4 < (x6_5.length : Int) := of_decide_eq_true (by first | (with_reducible assumption) | assumption)
                                                        obtain ⟨ad129, A129_0, c129_0, e129, hx129_0, hl129_0, hi129_0⟩ := at_L2 (Kd.S_reads' HO_6.out).2.2 x99_4 p129 q129
                                                        cases e129
                                                        obtain ⟨ce129, hce129, hMe129, hcc129⟩ := Kd.S_get HO_6.out [] x99_4 p129 (by first | exact q129 | exact of_decide_eq_true (by first | (with_reducible assumption) | assumption) | (have e_ := (Kd.S_reads' HO_6.out).1; omega))
                                                        obtain ⟨ve129_0, rfl, ge129_0⟩ := hMe129
                                                        have hv129_0 := hcc129 0 _ rfl
                                                        rw [Nat.add_zero, show ((Kd.slice 3 (Kd.int .i64))).sz = 1 from rfl, Nat.mul_one] at hv129_0
                                                        replace hv129_0 := Option.some.inj (hv129_0.symm.trans hx129_0)
                                                        rw [hv129_0] at ge129_0
                                                        have HL129_0 := Aside0.mk (show Kd.R (Kd.int .i64) 3 _ _ _ _ (rd_L2 x6_5 x99_4) from ge129_0)
                                                        clear hv129_0 ge129_0
                                                        have HX129_0 := Aside0.mk hx129_0
                                                        clear hcc129 hce129
                                                        have HR129_0 := Aside0.mk hi129_0
                                                        have HC129_0 := Aside0.mk hl129_0
                                                        clear hi129_0 hl129_0
                                                        replace p129 := eq_true p129
                                                        replace q129 := eq_true q129
                                                        have p130 : 0 ≤ (x95_3 : Int) := of_decide_eq_true (by first | (with_reducible assumption) | assumption)
                                                        have q130 : x95_3 < ((rd_L2 x6_5 x99_4).length : Int) := of_decide_eq_true (by first | (with_reducible assumption) | assumption)
                                                        obtain ⟨ad130, e130, hx130_0⟩ := Kd.at_int (by repeat (first | (with_reducible exact HR129_0.out) | (with_reducible refine Kd.C_alloc ?_ _) | (with_reducible refine Kd.C_drewN ?_ _) | (with_reducible refine Kd.C_drew ?_) | exact HR129_0.out)) x95_3 p130 q130
                                                        cases e130
                                                        replace p130 := eq_true p130
                                                        replace q130 := eq_true q130
                                                        have p131 : 0 ≤ (x95_3 : Int) := of_decide_eq_true (by first | (with_reducible assumption) | assumption)
                                                        have q131 : x95_3 < (x6_5.length : Int) := of_decide_eq_true (by first | (with_reducible assumption) | assumption)
                                                        obtain ⟨ad131, A131_0, c131_0, e131, hx131_0, hl131_0, hi131_0⟩ := at_L2 (Kd.S_reads' HO_6.out).2.2 x95_3 p131 q131
                                                        obtain rfl : ad129 = ad131 := (by injection e131)
                                                        obtain ⟨ce131, hce131, hMe131, hcc131⟩ := Kd.S_get HO_6.out [] x95_3 p131 (by first | exact q131 | exact of_decide_eq_true (by first | (with_reducible assumption) | assumption) | (have e_ := (Kd.S_reads' HO_6.out).1; omega))
                                                        obtain ⟨ve131_0, rfl, ge131_0⟩ := hMe131
                                                        have hv131_0 := hcc131 0 _ rfl
                                                        rw [Nat.add_zero, show ((Kd.slice 3 (Kd.int .i64))).sz = 1 from rfl, Nat.mul_one] at hv131_0
                                                        replace hv131_0 := Option.some.inj (hv131_0.symm.trans hx131_0)
                                                        rw [hv131_0] at ge131_0
                                                        have HL131_0 := Aside0.mk (show Kd.R (Kd.int .i64) 3 _ _ _ _ (rd_L2 x6_5 x95_3) from ge131_0)
                                                        clear hv131_0 ge131_0
                                                        have HX131_0 := Aside0.mk hx131_0
                                                        clear hcc131 hce131
                                                        have HR131_0 := Aside0.mk hi131_0
                                                        have HC131_0 := Aside0.mk hl131_0
                                                        clear hi131_0 hl131_0
                                                        replace p131 := eq_true p131
                                                        replace q131 := eq_true q131
                                                        have p132 : 0 ≤ (x103_5 : Int) := of_decide_eq_true (by first | (with_reducible assumption) | assumption)
                                                        have q132 : x103_5 < ((rd_L2 x6_5 x95_3).length : Int) := of_decide_eq_true (by first | (with_reducible assumption) | assumption)
                                                        obtain ⟨ad132, e132, hx132_0⟩ := Kd.at_int (by repeat (first | (with_reducible exact HR131_0.out) | (with_reducible refine Kd.C_alloc ?_ _) | (with_reducible refine Kd.C_drewN ?_ _) | (with_reducible refine Kd.C_drew ?_) | exact HR131_0.out)) x103_5 p132 q132
                                                        cases e132
                                                        replace p132 := eq_true p132
                                                        replace q132 := eq_true q132
                                                        try go_wp2
                                                        have n0_ := Aside0.mk (Kd.S_drew HO_6.out)
                                                        have n1_ := Aside0.mk (Kd.R_drew HL129_0.out)
                                                        have n2_ := Aside0.mk (Kd.R_drew HL131_0.out)
                                                        have n3_ := Aside0.mk (Kd.C_drew HR129_0.out)
                                                        have n4_ := Aside0.mk (Kd.C_drew HR131_0.out)
                                                        have n5_ := Aside0.mk (below_drew1 HB.out)
                                                        clear HO_6
                                                        clear HL129_0
                                                        clear HL131_0
                                                        clear HR129_0
                                                        clear HR131_0
                                                        clear HB
                                                        have HO_6 := n0_
                                                        have HL129_0 := n1_
                                                        have HL131_0 := n2_
                                                        have HR129_0 := n3_
                                                        have HR131_0 := n4_
                                                        have HB := n5_
                                                        clear n0_ n1_ n2_ n3_ n4_ n5_
                                                        have p133 : 0 ≤ (x99_4 : Int) := of_decide_eq_true (by first | (with_reducible assumption) | assumption)
                                                        have q133 : x99_4 < (x6_5.length : Int) := of_decide_eq_true (by first | (with_reducible assumption) | assumption)
                                                        obtain ⟨ad133, A133_0, c133_0, e133, hx133_0, hl133_0, hi133_0⟩ := at_L2 (Kd.S_reads' HO_6.out).2.2 x99_4 p133 q133
                                                        obtain rfl : ad129 = ad133 := (by injection e133)
                                                        obtain ⟨ce133, hce133, hMe133, hcc133⟩ := Kd.S_get HO_6.out [] x99_4 p133 (by first | exact q133 | exact of_decide_eq_true (by first | (with_reducible assumption) | assumption) | (have e_ := (Kd.S_reads' HO_6.out).1; omega))
                                                        obtain ⟨ve133_0, rfl, ge133_0⟩ := hMe133
                                                        have hv133_0 := hcc133 0 _ rfl
                                                        rw [Nat.add_zero, show ((Kd.slice 3 (Kd.int .i64))).sz = 1 from rfl, Nat.mul_one] at hv133_0
                                                        replace hv133_0 := Option.some.inj (hv133_0.symm.trans hx133_0)
                                                        rw [hv133_0] at ge133_0
                                                        have HL133_0 := Aside0.mk (show Kd.R (Kd.int .i64) 3 _ _ _ _ (rd_L2 x6_5 x99_4) from ge133_0)
                                                        clear hv133_0 ge133_0
                                                        have HX133_0 := Aside0.mk hx133_0
                                                        clear hcc133 hce133
                                                        have HR133_0 := Aside0.mk hi133_0
                                                        have HC133_0 := Aside0.mk hl133_0
                                                        clear hi133_0 hl133_0
                                                        replace p133 := eq_true p133
                                                        replace q133 := eq_true q133
                                                        have p134 : 0 ≤ (x99_4 : Int) := of_decide_eq_true (by first | (with_reducible assumption) | assumption)
                                                        have q134 : x99_4 < (x6_5.length : Int) := of_decide_eq_true (by first | (with_reducible assumption) | assumption)
                                                        obtain ⟨ad134, A134_0, c134_0, e134, hx134_0, hl134_0, hi134_0⟩ := at_L2 (Kd.S_reads' HO_6.out).2.2 x99_4 p134 q134
                                                        obtain rfl : ad129 = ad134 := (by injection e134)
                                                        obtain ⟨ce134, hce134, hMe134, hcc134⟩ := Kd.S_get HO_6.out [] x99_4 p134 (by first | exact q134 | exact of_decide_eq_true (by first | (with_reducible assumption) | assumption) | (have e_ := (Kd.S_reads' HO_6.out).1; omega))
                                                        obtain ⟨ve134_0, rfl, ge134_0⟩ := hMe134
                                                        have hv134_0 := hcc134 0 _ rfl
                                                        rw [Nat.add_zero, show ((Kd.slice 3 (Kd.int .i64))).sz = 1 from rfl, Nat.mul_one] at hv134_0
                                                        replace hv134_0 := Option.some.inj (hv134_0.symm.trans hx134_0)
                                                        rw [hv134_0] at ge134_0
                                                        have HL134_0 := Aside0.mk (show Kd.R (Kd.int .i64) 3 _ _ _ _ (rd_L2 x6_5 x99_4) from ge134_0)
                                                        clear hv134_0 ge134_0
                                                        have HX134_0 := Aside0.mk hx134_0
                                                        clear hcc134 hce134
                                                        have HR134_0 := Aside0.mk hi134_0
                                                        have HC134_0 := Aside0.mk hl134_0
                                                        clear hi134_0 hl134_0
                                                        replace p134 := eq_true p134
                                                        replace q134 := eq_true q134
                                                        have ea_ := Option.some.inj (hx133_0.symm.trans hx134_0)
                                                        injection ea_ with ea_ en_ ec_
                                                        subst ea_
                                                        subst ec_
                                                        clear en_
                                                        have p135 : 0 ≤ (x103_5 : Int) := of_decide_eq_true (by first | (with_reducible assumption) | assumption)
                                                        have q135 : x103_5 < ((rd_L2 x6_5 x99_4).length : Int) := of_decide_eq_true (by first | (with_reducible assumption) | assumption)
                                                        obtain ⟨ad135, e135, hx135_0⟩ := Kd.at_int (by repeat (first | (with_reducible exact HR134_0.out) | (with_reducible refine Kd.C_alloc ?_ _) | (with_reducible refine Kd.C_drewN ?_ _) | (with_reducible refine Kd.C_drew ?_) | exact HR134_0.out)) x103_5 p135 q135
                                                        cases e135
                                                        replace p135 := eq_true p135
                                                        replace q135 := eq_true q135
                                                        have p136 : 0 ≤ (x99_4 : Int) := of_decide_eq_true (by first | (with_reducible assumption) | assumption)
                                                        have q136 : x99_4 < (x6_5.length : Int) := of_decide_eq_true (by first | (with_reducible assumption) | assumption)
                                                        obtain ⟨ad136, A136_0, c136_0, e136, hx136_0, hl136_0, hi136_0⟩ := at_L2 (Kd.S_reads' HO_6.out).2.2 x99_4 p136 q136
                                                        obtain rfl : ad129 = ad136 := (by injection e136)
                                                        obtain ⟨ce136, hce136, hMe136, hcc136⟩ := Kd.S_get HO_6.out [] x99_4 p136 (by first | exact q136 | exact of_decide_eq_true (by first | (with_reducible assumption) | assumption) | (have e_ := (Kd.S_reads' HO_6.out).1; omega))
                                                        obtain ⟨ve136_0, rfl, ge136_0⟩ := hMe136
                                                        have hv136_0 := hcc136 0 _ rfl
                                                        rw [Nat.add_zero, show ((Kd.slice 3 (Kd.int .i64))).sz = 1 from rfl, Nat.mul_one] at hv136_0
                                                        replace hv136_0 := Option.some.inj (hv136_0.symm.trans hx136_0)
                                                        rw [hv136_0] at ge136_0
                                                        have HL136_0 := Aside0.mk (show Kd.R (Kd.int .i64) 3 _ _ _ _ (rd_L2 x6_5 x99_4) from ge136_0)
                                                        clear hv136_0 ge136_0
                                                        have HX136_0 := Aside0.mk hx136_0
                                                        clear hcc136 hce136
                                                        have HR136_0 := Aside0.mk hi136_0
                                                        have HC136_0 := Aside0.mk hl136_0
                                                        clear hi136_0 hl136_0
                                                        replace p136 := eq_true p136
                                                        replace q136 := eq_true q136
                                                        have ea_ := Option.some.inj (hx133_0.symm.trans hx136_0)
                                                        injection ea_ with ea_ en_ ec_
                                                        subst ea_
                                                        subst ec_
                                                        clear en_
                                                        have p137 : 0 ≤ (x95_3 : Int) := of_decide_eq_true (by first | (with_reducible assumption) | assumption)
                                                        have q137 : x95_3 < ((rd_L2 x6_5 x99_4).length : Int) := of_decide_eq_true (by first | (with_reducible assumption) | assumption)
                                                        obtain ⟨ad137, e137, hx137_0⟩ := Kd.at_int (by repeat (first | (with_reducible exact HR136_0.out) | (with_reducible refine Kd.C_alloc ?_ _) | (with_reducible refine Kd.C_drewN ?_ _) | (with_reducible refine Kd.C_drew ?_) | exact HR136_0.out)) x95_3 p137 q137
                                                        cases e137
                                                        replace p137 := eq_true p137
                                                        replace q137 := eq_true q137
                                                        have p138 : 0 ≤ (x95_3 : Int) := of_decide_eq_true (by first | (with_reducible assumption) | assumption)
                                                        have q138 : x95_3 < (x6_5.length : Int) := of_decide_eq_true (by first | (with_reducible assumption) | assumption)
                                                        obtain ⟨ad138, A138_0, c138_0, e138, hx138_0, hl138_0, hi138_0⟩ := at_L2 (Kd.S_reads' HO_6.out).2.2 x95_3 p138 q138
                                                        obtain rfl : ad129 = ad138 := (by injection e138)
                                                        obtain ⟨ce138, hce138, hMe138, hcc138⟩ := Kd.S_get HO_6.out [] x95_3 p138 (by first | exact q138 | exact of_decide_eq_true (by first | (with_reducible assumption) | assumption) | (have e_ := (Kd.S_reads' HO_6.out).1; omega))
                                                        obtain ⟨ve138_0, rfl, ge138_0⟩ := hMe138
                                                        have hv138_0 := hcc138 0 _ rfl
                                                        rw [Nat.add_zero, show ((Kd.slice 3 (Kd.int .i64))).sz = 1 from rfl, Nat.mul_one] at hv138_0
                                                        replace hv138_0 := Option.some.inj (hv138_0.symm.trans hx138_0)
                                                        rw [hv138_0] at ge138_0
                                                        have HL138_0 := Aside0.mk (show Kd.R (Kd.int .i64) 3 _ _ _ _ (rd_L2 x6_5 x95_3) from ge138_0)
                                                        clear hv138_0 ge138_0
                                                        have HX138_0 := Aside0.mk hx138_0
                                                        clear hcc138 hce138
                                                        have HR138_0 := Aside0.mk hi138_0
                                                        have HC138_0 := Aside0.mk hl138_0
                                                        clear hi138_0 hl138_0
                                                        replace p138 := eq_true p138
                                                        replace q138 := eq_true q138
                                                        have p139 : 0 ≤ (x103_5 : Int) := of_decide_eq_true (by first | (with_reducible assumption) | assumption)
                                                        have q139 : x103_5 < ((rd_L2 x6_5 x95_3).length : Int) := of_decide_eq_true (by first | (with_reducible assumption) | assumption)
                                                        obtain ⟨ad139, e139, hx139_0⟩ := Kd.at_int (by repeat (first | (with_reducible exact HR138_0.out) | (with_reducible refine Kd.C_alloc ?_ _) | (with_reducible refine Kd.C_drewN ?_ _) | (with_reducible refine Kd.C_drew ?_) | exact HR138_0.out)) x103_5 p139 q139
                                                        cases e139
                                                        replace p139 := eq_true p139
                                                        replace q139 := eq_true q139
                                                        have p64 : 0 ≤ (x103_5 : Int) := of_decide_eq_true (by first | (with_reducible assumption) | assumption)
                                                        have q64 : (x103_5 : Int) < (((rd_L2 x6_5 x99_4).length : Int) : Int) := of_decide_eq_true (by first | (with_reducible assumption) | assumption)
                                                        obtain ⟨go64, co64, eo64, gb64, gl64, cl64, HG64⟩ := Kd.R_form HL133_0.out (by omega)
                                                        (first | cases eo64 | (injection eo64 with ea_ en_ ec_; (first | subst ea_ | (injection ea_ with ea_; subst ea_)); subst ec_; clear en_))
                                                        have GB64 := Aside0.mk gb64
                                                        have GG64 := Aside0.mk HG64
                                                        clear gb64 gl64 HG64
                                                        (first | simp only [add_plain] at hx137_0 | skip)
                                                        obtain ⟨hx64_0, hf64_0⟩ := Kd.R_celln 0 HL133_0.out (x103_5 : Int) p64 q64
                                                        replace p64 := eq_true p64
                                                        replace q64 := eq_true q64
                                                        have hq66 : (x99_4 : Int) < (x6_5.length : Int) := (by have h_ : (x99_4 : Int) < ((x6_5.length : Int) : Int) := of_decide_eq_true (by first | (with_reducible assumption) | assumption); first | exact h_ | (have e_ := (Kd.S_reads' HO_6.out).1; omega) | simpa only [List.length_set, List.length_set] using h_)
                                                        obtain ⟨oki66, ce66, hcl66, hM66, hcc66, hok66, hbk66⟩ := Kd.S_borrow HO_6.out [] (x99_4 : Int) (of_decide_eq_true (by first | (with_reducible assumption) | assumption)) (by first | exact hq66 | (have e_ := (Kd.S_reads' HO_6.out).1; omega))
                                                        obtain ⟨ve66_0, rfl, ge66_0⟩ := hM66
                                                        have hv66 := hcc66 0 _ rfl
                                                        rw [Nat.add_zero, show ((Kd.slice 3 (Kd.int .i64))).sz = 1 from rfl, Nat.mul_one] at hv66
                                                        replace hv66 := Option.some.inj (hv66.symm.trans HX133_0.out)
                                                        subst hv66
                                                        (try clear hcc66); (try clear hcl66)
                                                        replace ge66_0 := (show Kd.R (Kd.int .i64) 3 _ _ _ _ (rd_L2 x6_5 x99_4) from ge66_0)
                                                        have HP66 := Kd.R_putg ge66_0 (x103_5 : Int) ji63
                                                        rw [← Ny140.out] at HP66
                                                        have HS66 := hbk66 HP66.2 (fun k_ e_ => by injection e_ with e_; subst e_; exact ge66_0.1 _ rfl) (x' := y140) (Kd.M_row HP66.1)
                                                        rw [← Ny142.out] at HS66
                                                        have HQ66 := Aside0.mk HS66
                                                        clear HP66 HS66 hbk66 hok66
                                                        refine start_ (n := 30) (S := fun w' => w'.cell? (ad129.add (x99_4).toNat) = some (.slice (some ⟨go64, 0, none⟩) (rd_L2 x6_5 x99_4).length c133_0) ∧ w'.cell? (ad129.add (x99_4).toNat) = some (.slice (some ⟨go64, 0, none⟩) (rd_L2 x6_5 x99_4).length c133_0) ∧ w'.cell? ⟨go64, (x103_5).toNat, none⟩ = some (.int .i64 (rd (rd_L2 x6_5 x99_4) x103_5)) ∧ w'.cell? (ad129.add (x99_4).toNat) = some (.slice (some ⟨go64, 0, none⟩) (rd_L2 x6_5 x99_4).length c133_0) ∧ w'.cell? ⟨go64, (x95_3).toNat, none⟩ = some (.int .i64 (rd (rd_L2 x6_5 x99_4) x95_3)) ∧ w'.cell? (ad129.add (x95_3).toNat) = some (.slice (some ad139) (rd_L2 x6_5 x95_3).length c138_0) ∧ w'.cell? (ad139.add (x103_5).toNat) = some (.int .i64 (rd (rd_L2 x6_5 x95_3) x103_5))) (ds := [29]) #[false, false, false, false, false, false, false, false, false, false, false, false, false, false, false, false, false, false, false, false, false, false, false, false, false, false, false, false, false, false] (by kernel_rfl) rfl rfl ⟨hx133_0, hx134_0, (by first | exact hx135_0 | simpa only [add_plain] using hx135_0), hx136_0, hx137_0, hx138_0, hx139_0⟩ (fun hHeld => ?_); refine with_tabW chron_most.tab29 chron_most.bits29 (fun HT_ HW_ => ?_)
                                                        generalize wr.drew = w65 at HO_6 HL129_0 HL131_0 HR129_0 HR131_0 HB GG64 HL133_0 HL134_0 HL136_0 HL138_0 HQ66 HR133_0 HR134_0 HR136_0 HR138_0 HX133_0 HX134_0 HX136_0 HX138_0 hf64_0 hx133_0 hx134_0 hx135_0 hx136_0 hx137_0 hx138_0 hx139_0 hx64_0 hHeld ⊢
                                                        refine pure_ (i := 0) (N := some 124) (v := ?_) (a' := ?_) #[true, false, false, false, false, false, false, false, false, false, false, false, false, false, false, false, false, false, false, false, false, false, false, false, false, false, false, false, false, false] rfl rfl (any_of HT_.out (by kernel_rfl)) (fun _ _ _ h => h) (Or.inl ⟨by rfl, ?_⟩) ?_ ?_
                                                        rotate_left
                                                        · intro w'
                                                          go_simp
                                                          with_reducible rfl
                                                        rotate_left
                                                        · simp only [Act.put, List.setIfInBounds_toArray, List.set_cons_zero, List.set_cons_succ, i64_w, i32_w]
                                                          rfl
                                                        refine pure_ (i := 1) (N := some 125) (v := ?_) (a' := ?_) #[true, true, false, false, false, false, false, false, false, false, false, false, false, false, false, false, false, false, false, false, false, false, false, false, false, false, false, false, false, false] rfl rfl (any_of HT_.out (by kernel_rfl)) (fun _ _ _ h => h) (Or.inl ⟨by rfl, ?_⟩) ?_ ?_
                                                        rotate_left
                                                        · intro w'
                                                          go_simp
                                                          with_reducible rfl
                                                        rotate_left
                                                        · simp only [Act.put, List.setIfInBounds_toArray, List.set_cons_zero, List.set_cons_succ, i64_w, i32_w]
                                                          rfl
                                                        refine pure_ (i := 2) (N := some 126) (v := ?_) (a' := ?_) #[true, true, true, false, false, false, false, false, false, false, false, false, false, false, false, false, false, false, false, false, false, false, false, false, false, false, false, false, false, false] rfl rfl (any_of HT_.out (by kernel_rfl)) (fun _ _ _ h => h) (Or.inl ⟨by rfl, ?_⟩) ?_ ?_
                                                        rotate_left
                                                        · intro w'
                                                          go_simp
                                                          with_reducible rfl
                                                        rotate_left
                                                        · simp only [Act.put, List.setIfInBounds_toArray, List.set_cons_zero, List.set_cons_succ, i64_w, i32_w]
                                                          rfl
                                                        refine pure_ (i := 4) (N := some 128) (v := ?_) (a' := ?_) #[true, true, true, false, true, false, false, false, false, false, false, false, false, false, false, false, false, false, false, false, false, false, false, false, false, false, false, false, false, false] rfl rfl (any_of HT_.out (by kernel_rfl)) (fun _ _ _ h => h) (Or.inl ⟨by rfl, ?_⟩) ?_ ?_
                                                        rotate_left
                                                        · intro w'
                                                          go_simp
                                                          with_reducible rfl
                                                        rotate_left
                                                        · simp only [Act.put, List.setIfInBounds_toArray, List.set_cons_zero, List.set_cons_succ, i64_w, i32_w]
                                                          rfl
                                                        refine pure_ (i := 5) (N := some 129) (v := ?_) (a' := ?_) #[true, true, true, false, true, true, false, false, false, false, false, false, false, false, false, false, false, false, false, false, false, false, false, false, false, false, false, false, false, false] rfl rfl (any_of HT_.out (by kernel_rfl)) (fun _ _ _ h => h) (Or.inl ⟨by rfl, ?_⟩) ?_ ?_
                                                        rotate_left
                                                        · intro w'
                                                          go_simp
                                                          with_reducible rfl
                                                        rotate_left
                                                        · simp only [Act.put, List.setIfInBounds_toArray, List.set_cons_zero, List.set_cons_succ, i64_w, i32_w]
                                                          rfl
                                                        refine pure_ (i := 6) (N := some 130) (v := ?_) (a' := ?_) #[true, true, true, false, true, true, true, false, false, false, false, false, false, false, false, false, false, false, false, false, false, false, false, false, false, false, false, false, false, false] rfl rfl (any_of HT_.out (by kernel_rfl)) (fun _ _ _ h => h) (Or.inl ⟨by rfl, ?_⟩) ?_ ?_
                                                        rotate_left
                                                        · intro w'
                                                          go_simp
                                                          with_reducible rfl
                                                        rotate_left
                                                        · simp only [Act.put, List.setIfInBounds_toArray, List.set_cons_zero, List.set_cons_succ, i64_w, i32_w]
                                                          rfl
                                                        refine pure_ (i := 7) (N := some 131) (v := ?_) (a' := ?_) #[true, true, true, false, true, true, true, true, false, false, false, false, false, false, false, false, false, false, false, false, false, false, false, false, false, false, false, false, false, false] rfl rfl (any_of HT_.out (by kernel_rfl)) (fun _ _ _ h => h) (Or.inl ⟨by rfl, ?_⟩) ?_ ?_
                                                        rotate_left
                                                        · intro w'
                                                          go_simp
                                                          with_reducible rfl
                                                        rotate_left
                                                        · simp only [Act.put, List.setIfInBounds_toArray, List.set_cons_zero, List.set_cons_succ, i64_w, i32_w]
                                                          rfl
                                                        refine pure_ (i := 9) (N := some 133) (v := ?_) (a' := ?_) #[true, true, true, false, true, true, true, true, false, true, false, false, false, false, false, false, false, false, false, false, false, false, false, false, false, false, false, false, false, false] rfl rfl (any_of HT_.out (by kernel_rfl)) (fun _ _ _ h => h) (Or.inl ⟨by rfl, ?_⟩) ?_ ?_
                                                        rotate_left
                                                        · intro w'
                                                          go_simp
                                                          with_reducible rfl
                                                        rotate_left
                                                        · simp only [Act.put, List.setIfInBounds_toArray, List.set_cons_zero, List.set_cons_succ, i64_w, i32_w]
                                                          rfl
                                                        refine pure_ (i := 12) (N := some 136) (v := ?_) (a' := ?_) #[true, true, true, false, true, true, true, true, false, true, false, false, true, false, false, false, false, false, false, false, false, false, false, false, false, false, false, false, false, false] rfl rfl (any_of HT_.out (by kernel_rfl)) (fun _ _ _ h => h) (Or.inl ⟨by rfl, ?_⟩) ?_ ?_
                                                        rotate_left
                                                        · intro w'
                                                          go_simp
                                                          with_reducible rfl
                                                        rotate_left
                                                        · simp only [Act.put, List.setIfInBounds_toArray, List.set_cons_zero, List.set_cons_succ, i64_w, i32_w]
                                                          rfl
                                                        refine pure_ (i := 13) (N := some 137) (v := ?_) (a' := ?_) #[true, true, true, false, true, true, true, true, false, true, false, false, true, true, false, false, false, false, false, false, false, false, false, false, false, false, false, false, false, false] rfl rfl (any_of HT_.out (by kernel_rfl)) (fun _ _ _ h => h) (Or.inl ⟨by rfl, ?_⟩) ?_ ?_
                                                        rotate_left
                                                        · intro w'
                                                          go_simp
                                                          with_reducible rfl
                                                        rotate_left
                                                        · simp only [Act.put, List.setIfInBounds_toArray, List.set_cons_zero, List.set_cons_succ, i64_w, i32_w]
                                                          rfl
                                                        refine pure_ (i := 14) (N := some 138) (v := ?_) (a' := ?_) #[true, true, true, false, true, true, true, true, false, true, false, false, true, true, true, false, false, false, false, false, false, false, false, false, false, false, false, false, false, false] rfl rfl (any_of HT_.out (by kernel_rfl)) (fun _ _ _ h => h) (Or.inl ⟨by rfl, ?_⟩) ?_ ?_
                                                        rotate_left
                                                        · intro w'
                                                          go_simp
                                                          with_reducible rfl
                                                        rotate_left
                                                        · simp only [Act.put, List.setIfInBounds_toArray, List.set_cons_zero, List.set_cons_succ, i64_w, i32_w]
                                                          rfl
                                                        refine pure_ (i := 16) (N := some 140) (v := ?_) (a' := ?_) #[true, true, true, false, true, true, true, true, false, true, false, false, true, true, true, false, true, false, false, false, false, false, false, false, false, false, false, false, false, false] rfl rfl (any_of HT_.out (by kernel_rfl)) (fun _ _ _ h => h) (Or.inl ⟨by rfl, ?_⟩) ?_ ?_
                                                        rotate_left
                                                        · intro w'
                                                          go_simp
                                                          with_reducible rfl
                                                        rotate_left
                                                        · simp only [Act.put, List.setIfInBounds_toArray, List.set_cons_zero, List.set_cons_succ, i64_w, i32_w]
                                                          rfl
                                                        refine pure_ (i := 19) (N := some 143) (v := ?_) (a' := ?_) #[true, true, true, false, true, true, true, true, false, true, false, false, true, true, true, false, true, false, false, true, false, false, false, false, false, false, false, false, false, false] rfl rfl (any_of HT_.out (by kernel_rfl)) (fun _ _ _ h => h) (Or.inl ⟨by rfl, ?_⟩) ?_ ?_
                                                        rotate_left
                                                        · intro w'
                                                          go_simp
                                                          with_reducible rfl
                                                        rotate_left
                                                        · simp only [Act.put, List.setIfInBounds_toArray, List.set_cons_zero, List.set_cons_succ, i64_w, i32_w]
                                                          rfl
                                                        refine pure_ (i := 20) (N := some 144) (v := ?_) (a' := ?_) #[true, true, true, false, true, true, true, true, false, true, false, false, true, true, true, false, true, false, false, true, true, false, false, false, false, false, false, false, false, false] rfl rfl (any_of HT_.out (by kernel_rfl)) (fun _ _ _ h => h) (Or.inl ⟨by rfl, ?_⟩) ?_ ?_
                                                        rotate_left
                                                        · intro w'
                                                          go_simp
                                                          with_reducible rfl
                                                        rotate_left
                                                        · simp only [Act.put, List.setIfInBounds_toArray, List.set_cons_zero, List.set_cons_succ, i64_w, i32_w]
                                                          rfl
                                                        refine pure_ (i := 21) (N := some 145) (v := ?_) (a' := ?_) #[true, true, true, false, true, true, true, true, false, true, false, false, true, true, true, false, true, false, false, true, true, true, false, false, false, false, false, false, false, false] rfl rfl (any_of HT_.out (by kernel_rfl)) (fun _ _ _ h => h) (Or.inl ⟨by rfl, ?_⟩) ?_ ?_
                                                        rotate_left
                                                        · intro w'
                                                          go_simp
                                                          with_reducible rfl
                                                        rotate_left
                                                        · simp only [Act.put, List.setIfInBounds_toArray, List.set_cons_zero, List.set_cons_succ, i64_w, i32_w]
                                                          rfl
                                                        refine pure_ (i := 23) (N := some 147) (v := ?_) (a' := ?_) #[true, true, true, false, true, true, true, true, false, true, false, false, true, true, true, false, true, false, false, true, true, true, false, true, false, false, false, false, false, false] rfl rfl (any_of HT_.out (by kernel_rfl)) (fun _ _ _ h => h) (Or.inl ⟨by rfl, ?_⟩) ?_ ?_
                                                        rotate_left
                                                        · intro w'
                                                          go_simp
                                                          with_reducible rfl
                                                        rotate_left
                                                        · simp only [Act.put, List.setIfInBounds_toArray, List.set_cons_zero, List.set_cons_succ, i64_w, i32_w]
                                                          rfl
                                                        refine take_ (i := 3) (N := some 127) (v := ?_) (a' := ?_) #[true, true, true, true, true, true, true, true, false, true, false, false, true, true, true, false, true, false, false, true, true, true, false, true, false, false, false, false, false, false] rfl rfl (take_ofW HT_.out HW_.out (by kernel_rfl)) (fun _ _ _ h => h) (Or.inl ⟨by rfl, ?_⟩) hHeld ?_ ?_
                                                        rotate_left
                                                        · rintro w' ⟨s0, s1, s2, s3, s4, s5, s6⟩
                                                          go_simp
                                                          with_reducible rfl
                                                        rotate_left
                                                        · simp only [Act.put, List.setIfInBounds_toArray, List.set_cons_zero, List.set_cons_succ, i64_w, i32_w]
                                                          rfl
                                                        refine take_ (i := 8) (N := some 132) (v := ?_) (a' := ?_) #[true, true, true, true, true, true, true, true, true, true, false, false, true, true, true, false, true, false, false, true, true, true, false, true, false, false, false, false, false, false] rfl rfl (take_ofW HT_.out HW_.out (by kernel_rfl)) (fun _ _ _ h => h) (Or.inl ⟨by rfl, ?_⟩) hHeld ?_ ?_
                                                        rotate_left
                                                        · rintro w' ⟨s0, s1, s2, s3, s4, s5, s6⟩
                                                          go_simp
                                                          with_reducible rfl
                                                        rotate_left
                                                        · simp only [Act.put, List.setIfInBounds_toArray, List.set_cons_zero, List.set_cons_succ, i64_w, i32_w]
                                                          rfl
                                                        refine pure_ (i := 10) (N := some 134) (v := ?_) (a' := ?_) #[true, true, true, true, true, true, true, true, true, true, true, false, true, true, true, false, true, false, false, true, true, true, false, true, false, false, false, false, false, false] rfl rfl (any_of HT_.out (by kernel_rfl)) (fun _ _ _ h => h) (Or.inl ⟨by rfl, ?_⟩) ?_ ?_
                                                        rotate_left
                                                        · intro w'
                                                          go_simp
                                                          with_reducible rfl
                                                        rotate_left
                                                        · simp only [Act.put, List.setIfInBounds_toArray, List.set_cons_zero, List.set_cons_succ, i64_w, i32_w]
                                                          rfl
                                                        refine take_ (i := 11) (N := some 135) (v := ?_) (a' := ?_) #[true, true, true, true, true, true, true, true, true, true, true, true, true, true, true, false, true, false, false, true, true, true, false, true, false, false, false, false, false, false] rfl rfl (take_ofW HT_.out HW_.out (by kernel_rfl)) (fun _ _ _ h => h) (Or.inl ⟨by rfl, ?_⟩) hHeld ?_ ?_
                                                        rotate_left
                                                        · rintro w' ⟨s0, s1, s2, s3, s4, s5, s6⟩
                                                          go_simp
                                                          with_reducible rfl
                                                        rotate_left
                                                        · simp only [Act.put, List.setIfInBounds_toArray, List.set_cons_zero, List.set_cons_succ, i64_w, i32_w]
                                                          rfl
                                                        refine take_ (i := 15) (N := some 139) (v := ?_) (a' := ?_) #[true, true, true, true, true, true, true, true, true, true, true, true, true, true, true, true, true, false, false, true, true, true, false, true, false, false, false, false, false, false] rfl rfl (take_ofW HT_.out HW_.out (by kernel_rfl)) (fun _ _ _ h => h) (Or.inl ⟨by rfl, ?_⟩) hHeld ?_ ?_
                                                        rotate_left
                                                        · rintro w' ⟨s0, s1, s2, s3, s4, s5, s6⟩
                                                          go_simp
                                                          with_reducible rfl
                                                        rotate_left
                                                        · simp only [Act.put, List.setIfInBounds_toArray, List.set_cons_zero, List.set_cons_succ, i64_w, i32_w]
                                                          rfl
                                                        refine pure_ (i := 17) (N := some 141) (v := ?_) (a' := ?_) #[true, true, true, true, true, true, true, true, true, true, true, true, true, true, true, true, true, true, false, true, true, true, false, true, false, false, false, false, false, false] rfl rfl (any_of HT_.out (by kernel_rfl)) (fun _ _ _ h => h) (Or.inl ⟨by rfl, ?_⟩) ?_ ?_
                                                        rotate_left
                                                        · intro w'
                                                          go_simp
                                                          with_reducible rfl
                                                        rotate_left
                                                        · simp only [Act.put, List.setIfInBounds_toArray, List.set_cons_zero, List.set_cons_succ, i64_w, i32_w]
                                                          rfl
                                                        refine take_ (i := 18) (N := some 142) (v := ?_) (a' := ?_) #[true, true, true, true, true, true, true, true, true, true, true, true, true, true, true, true, true, true, true, true, true, true, false, true, false, false, false, false, false, false] rfl rfl (take_ofW HT_.out HW_.out (by kernel_rfl)) (fun _ _ _ h => h) (Or.inl ⟨by rfl, ?_⟩) hHeld ?_ ?_
                                                        rotate_left
                                                        · rintro w' ⟨s0, s1, s2, s3, s4, s5, s6⟩
                                                          go_simp
                                                          with_reducible rfl
                                                        rotate_left
                                                        · simp only [Act.put, List.setIfInBounds_toArray, List.set_cons_zero, List.set_cons_succ, i64_w, i32_w]
                                                          rfl
                                                        refine take_ (i := 22) (N := some 146) (v := ?_) (a' := ?_) #[true, true, true, true, true, true, true, true, true, true, true, true, true, true, true, true, true, true, true, true, true, true, true, true, false, false, false, false, false, false] rfl rfl (take_ofW HT_.out HW_.out (by kernel_rfl)) (fun _ _ _ h => h) (Or.inl ⟨by rfl, ?_⟩) hHeld ?_ ?_
                                                        rotate_left
                                                        · rintro w' ⟨s0, s1, s2, s3, s4, s5, s6⟩
                                                          go_simp
                                                          with_reducible rfl
                                                        rotate_left
                                                        · simp only [Act.put, List.setIfInBounds_toArray, List.set_cons_zero, List.set_cons_succ, i64_w, i32_w]
                                                          rfl
                                                        refine pure_ (i := 24) (N := some 148) (v := ?_) (a' := ?_) #[true, true, true, true, true, true, true, true, true, true, true, true, true, true, true, true, true, true, true, true, true, true, true, true, true, false, false, false, false, false] rfl rfl (any_of HT_.out (by kernel_rfl)) (fun _ _ _ h => h) (Or.inl ⟨by rfl, ?_⟩) ?_ ?_
                                                        rotate_left
                                                        · intro w'
                                                          go_simp
                                                          with_reducible rfl
                                                        rotate_left
                                                        · simp only [Act.put, List.setIfInBounds_toArray, List.set_cons_zero, List.set_cons_succ, i64_w, i32_w]
                                                          rfl
                                                        refine take_ (i := 25) (N := some 149) (v := ?_) (a' := ?_) #[true, true, true, true, true, true, true, true, true, true, true, true, true, true, true, true, true, true, true, true, true, true, true, true, true, true, false, false, false, false] rfl rfl (take_ofW HT_.out HW_.out (by kernel_rfl)) (fun _ _ _ h => h) (Or.inl ⟨by rfl, ?_⟩) hHeld ?_ ?_
                                                        rotate_left
                                                        · rintro w' ⟨s0, s1, s2, s3, s4, s5, s6⟩
                                                          go_simp
                                                          with_reducible rfl
                                                        rotate_left
                                                        · simp only [Act.put, List.setIfInBounds_toArray, List.set_cons_zero, List.set_cons_succ, i64_w, i32_w]
                                                          rfl
                                                        refine pure_ (i := 26) (N := some 150) (v := ?_) (a' := ?_) #[true, true, true, true, true, true, true, true, true, true, true, true, true, true, true, true, true, true, true, true, true, true, true, true, true, true, true, false, false, false] rfl rfl (any_of HT_.out (by kernel_rfl)) (fun _ _ _ h => h) (Or.inl ⟨by rfl, ?_⟩) ?_ ?_
                                                        rotate_left
                                                        · intro w'
                                                          go_simp
                                                          with_reducible rfl
                                                        rotate_left
                                                        · simp only [Act.put, List.setIfInBounds_toArray, List.set_cons_zero, List.set_cons_succ, i64_w, i32_w]
                                                          rfl
                                                        refine pure_ (i := 27) (N := some 151) (v := ?_) (a' := ?_) #[true, true, true, true, true, true, true, true, true, true, true, true, true, true, true, true, true, true, true, true, true, true, true, true, true, true, true, true, false, false] rfl rfl (any_of HT_.out (by kernel_rfl)) (fun _ _ _ h => h) (Or.inl ⟨by rfl, ?_⟩) ?_ ?_
                                                        rotate_left
                                                        · intro w'
                                                          go_simp
                                                          with_reducible rfl
                                                        rotate_left
                                                        · simp only [Act.put, List.setIfInBounds_toArray, List.set_cons_zero, List.set_cons_succ, i64_w, i32_w]
                                                          rfl
                                                        refine pure_ (i := 28) (N := some 152) (v := ?_) (a' := ?_) #[true, true, true, true, true, true, true, true, true, true, true, true, true, true, true, true, true, true, true, true, true, true, true, true, true, true, true, true, true, false] rfl rfl (any_of HT_.out (by kernel_rfl)) (fun _ _ _ h => h) (Or.inl ⟨by rfl, ?_⟩) ?_ ?_
                                                        rotate_left
                                                        · intro w'
                                                          go_simp
                                                          with_reducible rfl
                                                        rotate_left
                                                        · simp only [Act.put, List.setIfInBounds_toArray, List.set_cons_zero, List.set_cons_succ, i64_w, i32_w]
                                                          rfl
                                                        refine last_ (i := 29) (N := none) #[true, true, true, true, true, true, true, true, true, true, true, true, true, true, true, true, true, true, true, true, true, true, true, true, true, true, true, true, true, true] rfl rfl (one_of HT_.out (by kernel_rfl)) (by decide) (fun K hK => ?_)
                                                        refine skip_ (w1 := ?_) (by rfl) rfl ?_ ?_
                                                        rotate_left
                                                        · go_simp
                                                          rfl
                                                        refine hK.out _ _ ?_
                                                        clear hK K
                                                        refine done_ (done_of HT_.out (by kernel_rfl)) ?_
                                                        try go_wp2
                                                        (try simp only [← hl6_5])
                                                        go_roundg k5
                                                        case measure => have := HK1.out; have := HK2.out; have := HK3.out; have := HK4.out; have := HK5.out; omega
                                                        case rel => exact ⟨(y142), (wrap64 (x103_5 + 1)), (by first | rfl | (simp; done) | (simp [*]; done)), H', ⟨by have := HK1.out; have := HK2.out; have := HK3.out; have := HK4.out; have := HK5.out; omega⟩, ⟨by (try simp only [hl6_1]); (try simp only [hl6_2]); (try simp only [hl6_3]); (try simp only [hl6_4]); (try simp only [hl6_5]); (with_reducible repeat (first | apply Kd.S_alloc | apply Kd.S_drewN | apply Kd.S_drew)); exact HQ66.out⟩, ⟨by repeat (first | (with_reducible first | exact HB.out | apply below_alloc | apply pw_below_drewN | apply below_drew1 | refine below_set ?_ GB64.out) | exact HB.out)⟩⟩
                                                      · rw [if_neg c62] at H
                                                        exact absurd H (by simp)
                                                    · rw [if_neg c61] at H
                                                      have c61b0 : decide ((rd (rd_L2 x6_5 x95_3) x103_5) < 1000000000) = false := decide_eq_false c61
                                                      clear c61
                                                      have H' := Aside0.mk H
                                                      clear H
                                                      have p129 : 0 ≤ (x99_4 : Int) := of_decide_eq_true (by first | (with_reducible assumption) | assumption)
                                                      have q129 : x99_4 < (x6_5.length : Int) := of_decide_eq_true (by first | (with_reducible assumption) | assumption)
                                                      obtain ⟨ad129, A129_0, c129_0, e129, hx129_0, hl129_0, hi129_0⟩ := at_L2 (Kd.S_reads' HO_6.out).2.2 x99_4 p129 q129
                                                      cases e129
                                                      obtain ⟨ce129, hce129, hMe129, hcc129⟩ := Kd.S_get HO_6.out [] x99_4 p129 (by first | exact q129 | exact of_decide_eq_true (by first | (with_reducible assumption) | assumption) | (have e_ := (Kd.S_reads' HO_6.out).1; omega))
                                                      obtain ⟨ve129_0, rfl, ge129_0⟩ := hMe129
                                                      have hv129_0 := hcc129 0 _ rfl
                                                      rw [Nat.add_zero, show ((Kd.slice 3 (Kd.int .i64))).sz = 1 from rfl, Nat.mul_one] at hv129_0
                                                      replace hv129_0 := Option.some.inj (hv129_0.symm.trans hx129_0)
                                                      rw [hv129_0] at ge129_0
                                                      have HL129_0 := Aside0.mk (show Kd.R (Kd.int .i64) 3 _ _ _ _ (rd_L2 x6_5 x99_4) from ge129_0)
                                                      clear hv129_0 ge129_0
                                                      have HX129_0 := Aside0.mk hx129_0
                                                      clear hcc129 hce129
                                                      have HR129_0 := Aside0.mk hi129_0
                                                      have HC129_0 := Aside0.mk hl129_0
                                                      clear hi129_0 hl129_0
                                                      replace p129 := eq_true p129
                                                      replace q129 := eq_true q129
                                                      have p130 : 0 ≤ (x95_3 : Int) := of_decide_eq_true (by first | (with_reducible assumption) | assumption)
                                                      have q130 : x95_3 < ((rd_L2 x6_5 x99_4).length : Int) := of_decide_eq_true (by first | (with_reducible assumption) | assumption)
                                                      obtain ⟨ad130, e130, hx130_0⟩ := Kd.at_int (by repeat (first | (with_reducible exact HR129_0.out) | (with_reducible refine Kd.C_alloc ?_ _) | (with_reducible refine Kd.C_drewN ?_ _) | (with_reducible refine Kd.C_drew ?_) | exact HR129_0.out)) x95_3 p130 q130
                                                      cases e130
                                                      replace p130 := eq_true p130
                                                      replace q130 := eq_true q130
                                                      have p131 : 0 ≤ (x95_3 : Int) := of_decide_eq_true (by first | (with_reducible assumption) | assumption)
                                                      have q131 : x95_3 < (x6_5.length : Int) := of_decide_eq_true (by first | (with_reducible assumption) | assumption)
                                                      obtain ⟨ad131, A131_0, c131_0, e131, hx131_0, hl131_0, hi131_0⟩ := at_L2 (Kd.S_reads' HO_6.out).2.2 x95_3 p131 q131
                                                      obtain rfl : ad129 = ad131 := (by injection e131)
                                                      obtain ⟨ce131, hce131, hMe131, hcc131⟩ := Kd.S_get HO_6.out [] x95_3 p131 (by first | exact q131 | exact of_decide_eq_true (by first | (with_reducible assumption) | assumption) | (have e_ := (Kd.S_reads' HO_6.out).1; omega))
                                                      obtain ⟨ve131_0, rfl, ge131_0⟩ := hMe131
                                                      have hv131_0 := hcc131 0 _ rfl
                                                      rw [Nat.add_zero, show ((Kd.slice 3 (Kd.int .i64))).sz = 1 from rfl, Nat.mul_one] at hv131_0
                                                      replace hv131_0 := Option.some.inj (hv131_0.symm.trans hx131_0)
                                                      rw [hv131_0] at ge131_0
                                                      have HL131_0 := Aside0.mk (show Kd.R (Kd.int .i64) 3 _ _ _ _ (rd_L2 x6_5 x95_3) from ge131_0)
                                                      clear hv131_0 ge131_0
                                                      have HX131_0 := Aside0.mk hx131_0
                                                      clear hcc131 hce131
                                                      have HR131_0 := Aside0.mk hi131_0
                                                      have HC131_0 := Aside0.mk hl131_0
                                                      clear hi131_0 hl131_0
                                                      replace p131 := eq_true p131
                                                      replace q131 := eq_true q131
                                                      have p132 : 0 ≤ (x103_5 : Int) := of_decide_eq_true (by first | (with_reducible assumption) | assumption)
                                                      have q132 : x103_5 < ((rd_L2 x6_5 x95_3).length : Int) := of_decide_eq_true (by first | (with_reducible assumption) | assumption)
                                                      obtain ⟨ad132, e132, hx132_0⟩ := Kd.at_int (by repeat (first | (with_reducible exact HR131_0.out) | (with_reducible refine Kd.C_alloc ?_ _) | (with_reducible refine Kd.C_drewN ?_ _) | (with_reducible refine Kd.C_drew ?_) | exact HR131_0.out)) x103_5 p132 q132
                                                      cases e132
                                                      replace p132 := eq_true p132
                                                      replace q132 := eq_true q132
                                                      go_wp2
                                                      (try simp only [← hl6_5])
                                                      go_roundg k5
                                                      case measure => have := HK1.out; have := HK2.out; have := HK3.out; have := HK4.out; have := HK5.out; omega
                                                      case rel => exact ⟨(x6_5), (wrap64 (x103_5 + 1)), (by first | rfl | (simp; done) | (simp [*]; done)), H', ⟨by have := HK1.out; have := HK2.out; have := HK3.out; have := HK4.out; have := HK5.out; omega⟩, ⟨by (try simp only [hl6_1]); (try simp only [hl6_2]); (try simp only [hl6_3]); (try simp only [hl6_4]); (try simp only [hl6_5]); (with_reducible repeat (first | apply Kd.S_alloc | apply Kd.S_drewN | apply Kd.S_drew)); exact HO_6.out⟩, ⟨by repeat (first | (with_reducible first | exact HB.out | apply below_alloc | apply pw_below_drewN | apply below_drew1) | exact HB.out)⟩⟩
                                                  · rw [if_neg c60] at H
                                                    exact absurd H (by simp)
                                                · rw [if_neg c59] at H
                                                  exact absurd H (by simp)
                                              · rw [if_neg c58] at H
                                                exact absurd H (by simp)
                                            · rw [if_neg c57] at H
                                              have c57b0 : decide ((rd (rd_L2 x6_5 x99_4) x95_3) < 1000000000) = false := decide_eq_false c57
                                              clear c57
                                              have H' := Aside0.mk H
                                              clear H
                                              have p129 : 0 ≤ (x99_4 : Int) := of_decide_eq_true (by first | (with_reducible assumption) | assumption)
                                              have q129 : x99_4 < (x6_5.length : Int) := of_decide_eq_true (by first | (with_reducible assumption) | assumption)
                                              obtain ⟨ad129, A129_0, c129_0, e129, hx129_0, hl129_0, hi129_0⟩ := at_L2 (Kd.S_reads' HO_6.out).2.2 x99_4 p129 q129
                                              cases e129
                                              obtain ⟨ce129, hce129, hMe129, hcc129⟩ := Kd.S_get HO_6.out [] x99_4 p129 (by first | exact q129 | exact of_decide_eq_true (by first | (with_reducible assumption) | assumption) | (have e_ := (Kd.S_reads' HO_6.out).1; omega))
                                              obtain ⟨ve129_0, rfl, ge129_0⟩ := hMe129
                                              have hv129_0 := hcc129 0 _ rfl
                                              rw [Nat.add_zero, show ((Kd.slice 3 (Kd.int .i64))).sz = 1 from rfl, Nat.mul_one] at hv129_0
                                              replace hv129_0 := Option.some.inj (hv129_0.symm.trans hx129_0)
                                              rw [hv129_0] at ge129_0
                                              have HL129_0 := Aside0.mk (show Kd.R (Kd.int .i64) 3 _ _ _ _ (rd_L2 x6_5 x99_4) from ge129_0)
                                              clear hv129_0 ge129_0
                                              have HX129_0 := Aside0.mk hx129_0
                                              clear hcc129 hce129
                                              have HR129_0 := Aside0.mk hi129_0
                                              have HC129_0 := Aside0.mk hl129_0
                                              clear hi129_0 hl129_0
                                              replace p129 := eq_true p129
                                              replace q129 := eq_true q129
                                              have p130 : 0 ≤ (x95_3 : Int) := of_decide_eq_true (by first | (with_reducible assumption) | assumption)
                                              have q130 : x95_3 < ((rd_L2 x6_5 x99_4).length : Int) := of_decide_eq_true (by first | (with_reducible assumption) | assumption)
                                              obtain ⟨ad130, e130, hx130_0⟩ := Kd.at_int (by repeat (first | (with_reducible exact HR129_0.out) | (with_reducible refine Kd.C_alloc ?_ _) | (with_reducible refine Kd.C_drewN ?_ _) | (with_reducible refine Kd.C_drew ?_) | exact HR129_0.out)) x95_3 p130 q130
                                              cases e130
                                              replace p130 := eq_true p130
                                              replace q130 := eq_true q130
                                              go_wp2
                                              (try simp only [← hl6_5])
                                              go_roundg k5
                                              case measure => have := HK1.out; have := HK2.out; have := HK3.out; have := HK4.out; have := HK5.out; omega
                                              case rel => exact ⟨(x6_5), (wrap64 (x103_5 + 1)), (by first | rfl | (simp; done) | (simp [*]; done)), H', ⟨by have := HK1.out; have := HK2.out; have := HK3.out; have := HK4.out; have := HK5.out; omega⟩, ⟨by (try simp only [hl6_1]); (try simp only [hl6_2]); (try simp only [hl6_3]); (try simp only [hl6_4]); (try simp only [hl6_5]); (with_reducible repeat (first | apply Kd.S_alloc | apply Kd.S_drewN | apply Kd.S_drew)); exact HO_6.out⟩, ⟨by repeat (first | (with_reducible first | exact HB.out | apply below_alloc | apply pw_below_drewN | apply below_drew1) | exact HB.out)⟩⟩
                                          · rw [if_neg c56] at H
                                            exact absurd H (by simp)
                                        · rw [if_neg c55] at H
                                          exact absurd H (by simp)
                                      · rw [if_neg c54] at H
                                        exact absurd H (by simp)
                                    · rw [if_neg c53] at H
                                      exact absurd H (by simp)
                                  · rw [if_neg c52] at H
                                    have c52b0 : decide (x103_5 < a0) = false := decide_eq_false c52
                                    clear c52
                                    have H' := Aside0.mk H
                                    clear H
                                    go_wp2
                                    (try simp only [← hl6_4, ← hl6_5])
                                    go_roundg k5
                                    case measure => have := HK1.out; have := HK2.out; have := HK3.out; have := HK4.out; have := HK5.out; omega
                                    case rel => exact ⟨(x6_5), (wrap64 (x99_4 + 1)), (by first | rfl | (simp; done) | (simp [*]; done)), H', ⟨by have := HK1.out; have := HK2.out; have := HK3.out; have := HK4.out; have := HK5.out; omega⟩, ⟨by (try simp only [hl6_1]); (try simp only [hl6_2]); (try simp only [hl6_3]); (try simp only [hl6_4]); (try simp only [hl6_5]); (with_reducible repeat (first | apply Kd.S_alloc | apply Kd.S_drewN | apply Kd.S_drew)); exact HO_6.out⟩, ⟨by repeat (first | (with_reducible first | exact HB.out | apply below_alloc | apply pw_below_drewN | apply below_drew1) | exact HB.out)⟩⟩
                            · rw [if_neg c51] at H
                              have c51b0 : decide (x99_4 < a0) = false := decide_eq_false c51
                              clear c51
                              have H' := Aside0.mk H
                              clear H
                              go_wp2
                              go_loopg [156] k4 (fun kq v156 w' => ∃ (x156_5 : Int), v156 = .int .i64 x156_5 ∧ Aside0 (chron_most.l6 kq a0 x6_4 a0 x95_3 a0 x156_5 = some (r1, r2)) ∧ Aside0 (kq ≤ k4) ∧ Aside0 (Kd.S (Kd.slice 3 (Kd.int .i64)) 30 w' w.heap.size (fun _ => True) (.slice Ao7 x6_4.length co7) x6_4) ∧ Aside0 (Below w.heap.size w w'))
                              case atStart => exact ⟨(0), (by first | rfl | (simp; done) | (simp [*]; done)), H', ⟨Nat.le_refl _⟩, ⟨by (try simp only [hl6_1]); (try simp only [hl6_2]); (try simp only [hl6_3]); (try simp only [hl6_4]); (with_reducible repeat (first | apply Kd.S_alloc | apply Kd.S_drewN | apply Kd.S_drew)); exact HO_6.out⟩, ⟨by repeat (first | (with_reducible first | exact HB.out | apply below_alloc | apply pw_below_drewN | apply below_drew1) | exact HB.out)⟩⟩
                              case round =>
                                clear H'
                                try clear c1
                                try clear p1
                                try clear q1
                                try clear hx1
                                try clear p2
                                try clear c5
                                try clear c6
                                try clear p6
                                try clear q6
                                try clear hx6
                                try clear hf6
                                try clear c12
                                try clear p12
                                try clear q12
                                try clear hx12
                                try clear c13
                                try clear p13
                                try clear q13
                                try clear hx13
                                try clear c51
                                try clear c51b0
                                try clear c52
                                try clear c52b0
                                try clear c53
                                try clear c54
                                try clear c55
                                try clear c56
                                try clear c57
                                try clear c57b0
                                try clear c58
                                try clear c59
                                try clear c60
                                try clear c61
                                try clear c61b0
                                try clear c62
                                try clear c62b0
                                try clear p64
                                try clear q64
                                try clear hx64
                                try clear hf64
                                try clear c66
                                try clear q66
                                try clear hx129_0
                                try clear hx130_0
                                try clear hx131_0
                                try clear hx132_0
                                try clear hx133_0
                                try clear hx134_0
                                try clear hx135_0
                                try clear hx136_0
                                try clear hx137_0
                                try clear hx138_0
                                try clear hx139_0
                                try clear hx64_0
                                try clear p129
                                try clear p130
                                try clear p131
                                try clear p132
                                try clear p133
                                try clear p134
                                try clear p135
                                try clear p136
                                try clear p137
                                try clear p138
                                try clear p139
                                try clear p64
                                try clear q129
                                try clear q130
                                try clear q131
                                try clear q132
                                try clear q133
                                try clear q134
                                try clear q135
                                try clear q136
                                try clear q137
                                try clear q138
                                try clear q139
                                try clear q64
                                obtain ⟨x156_5, rfl, HA, HK5, HO_6, HB⟩ := hrel
                                cases gk with
                                | zero => exact absurd HA.out (by simp [chron_most.l6])
                                | succ k5 =>
                                  have H := HA.out
                                  clear HA
                                  simp only [chron_most.l6] at H
                                  by_cases c68 : x156_5 < a0
                                  · rw [if_pos c68] at H
                                    have c68b0 : decide (x156_5 < a0) = true := decide_eq_true c68
                                    clear c68
                                    by_cases c69 : 0 ≤ x156_5
                                    · rw [if_pos c69] at H
                                      have c69b0 : decide (0 ≤ x156_5) = true := decide_eq_true c69
                                      clear c69
                                      by_cases c70 : x156_5 < (x6_4.length : Int)
                                      · rw [if_pos c70] at H
                                        have c70b0 : decide (x156_5 < (x6_4.length : Int)) = true := decide_eq_true c70
                                        clear c70
                                        by_cases c71 : x156_5 < ((rd_L2 x6_4 x156_5).length : Int)
                                        · rw [if_pos c71] at H
                                          have c71b0 : decide (x156_5 < ((rd_L2 x6_4 x156_5).length : Int)) = true := decide_eq_true c71
                                          clear c71
                                          by_cases c72 : (rd (rd_L2 x6_4 x156_5) x156_5) < 0
                                          · rw [if_pos c72] at H
                                            have c72b0 : decide ((rd (rd_L2 x6_4 x156_5) x156_5) < 0) = true := decide_eq_true c72
                                            clear c72
                                            simp only [Option.some.injEq, Prod.mk.injEq] at H
                                            obtain ⟨rfl, rfl⟩ := H
                                            have p143 : 0 ≤ (x156_5 : Int) := of_decide_eq_true (by first | (with_reducible assumption) | assumption)
                                            have q143 : x156_5 < (x6_4.length : Int) := of_decide_eq_true (by first | (with_reducible assumption) | assumption)
                                            obtain ⟨ad143, A143_0, c143_0, e143, hx143_0, hl143_0, hi143_0⟩ := at_L2 (Kd.S_reads' HO_6.out).2.2 x156_5 p143 q143
                                            cases e143
                                            obtain ⟨ce143, hce143, hMe143, hcc143⟩ := Kd.S_get HO_6.out [] x156_5 p143 (by first | exact q143 | exact of_decide_eq_true (by first | (with_reducible assumption) | assumption) | (have e_ := (Kd.S_reads' HO_6.out).1; omega))
                                            obtain ⟨ve143_0, rfl, ge143_0⟩ := hMe143
                                            have hv143_0 := hcc143 0 _ rfl
                                            rw [Nat.add_zero, show ((Kd.slice 3 (Kd.int .i64))).sz = 1 from rfl, Nat.mul_one] at hv143_0
                                            replace hv143_0 := Option.some.inj (hv143_0.symm.trans hx143_0)
                                            rw [hv143_0] at ge143_0
                                            have HL143_0 := Aside0.mk (show Kd.R (Kd.int .i64) 3 _ _ _ _ (rd_L2 x6_4 x156_5) from ge143_0)
                                            clear hv143_0 ge143_0
                                            have HX143_0 := Aside0.mk hx143_0
                                            clear hcc143 hce143
                                            have HR143_0 := Aside0.mk hi143_0
                                            have HC143_0 := Aside0.mk hl143_0
                                            clear hi143_0 hl143_0
                                            replace p143 := eq_true p143
                                            replace q143 := eq_true q143
                                            have p144 : 0 ≤ (x156_5 : Int) := of_decide_eq_true (by first | (with_reducible assumption) | assumption)
                                            have q144 : x156_5 < ((rd_L2 x6_4 x156_5).length : Int) := of_decide_eq_true (by first | (with_reducible assumption) | assumption)
                                            obtain ⟨ad144, e144, hx144_0⟩ := Kd.at_int (by repeat (first | (with_reducible exact HR143_0.out) | (with_reducible refine Kd.C_alloc ?_ _) | (with_reducible refine Kd.C_drewN ?_ _) | (with_reducible refine Kd.C_drew ?_) | exact HR143_0.out)) x156_5 p144 q144
                                            cases e144
                                            replace p144 := eq_true p144
                                            replace q144 := eq_true q144
                                            go_wp2
                                            go_ret2
                                            exact ⟨_, by first | rfl | (simp [errW_none, errW_some] <;> rfl) | (simp [*, errW_none, errW_some] <;> rfl), by first | exact Kd.S_nil _ _ _ _ _ | exact Kd.N_nil _ _ _ _ _ | exact Kd.V_nil _ _ _ _ _ | exact Kd.Q_nil _ _ _ _ _ | exact Kd.R_nil _ _ _ _ _, by repeat (first | (with_reducible first | exact HB.out | apply below_alloc | apply pw_below_drewN | apply below_drew1) | exact HB.out)⟩
                                          · rw [if_neg c72] at H
                                            have c72b0 : decide ((rd (rd_L2 x6_4 x156_5) x156_5) < 0) = false := decide_eq_false c72
                                            clear c72
                                            have H' := Aside0.mk H
                                            clear H
                                            have p143 : 0 ≤ (x156_5 : Int) := of_decide_eq_true (by first | (with_reducible assumption) | assumption)
                                            have q143 : x156_5 < (x6_4.length : Int) := of_decide_eq_true (by first | (with_reducible assumption) | assumption)
                                            obtain ⟨ad143, A143_0, c143_0, e143, hx143_0, hl143_0, hi143_0⟩ := at_L2 (Kd.S_reads' HO_6.out).2.2 x156_5 p143 q143
                                            cases e143
                                            obtain ⟨ce143, hce143, hMe143, hcc143⟩ := Kd.S_get HO_6.out [] x156_5 p143 (by first | exact q143 | exact of_decide_eq_true (by first | (with_reducible assumption) | assumption) | (have e_ := (Kd.S_reads' HO_6.out).1; omega))
                                            obtain ⟨ve143_0, rfl, ge143_0⟩ := hMe143
                                            have hv143_0 := hcc143 0 _ rfl
                                            rw [Nat.add_zero, show ((Kd.slice 3 (Kd.int .i64))).sz = 1 from rfl, Nat.mul_one] at hv143_0
                                            replace hv143_0 := Option.some.inj (hv143_0.symm.trans hx143_0)
                                            rw [hv143_0] at ge143_0
                                            have HL143_0 := Aside0.mk (show Kd.R (Kd.int .i64) 3 _ _ _ _ (rd_L2 x6_4 x156_5) from ge143_0)
                                            clear hv143_0 ge143_0
                                            have HX143_0 := Aside0.mk hx143_0
                                            clear hcc143 hce143
                                            have HR143_0 := Aside0.mk hi143_0
                                            have HC143_0 := Aside0.mk hl143_0
                                            clear hi143_0 hl143_0
                                            replace p143 := eq_true p143
                                            replace q143 := eq_true q143
                                            have p144 : 0 ≤ (x156_5 : Int) := of_decide_eq_true (by first | (with_reducible assumption) | assumption)
                                            have q144 : x156_5 < ((rd_L2 x6_4 x156_5).length : Int) := of_decide_eq_true (by first | (with_reducible assumption) | assumption)
                                            obtain ⟨ad144, e144, hx144_0⟩ := Kd.at_int (by repeat (first | (with_reducible exact HR143_0.out) | (with_reducible refine Kd.C_alloc ?_ _) | (with_reducible refine Kd.C_drewN ?_ _) | (with_reducible refine Kd.C_drew ?_) | exact HR143_0.out)) x156_5 p144 q144
                                            cases e144
                                            replace p144 := eq_true p144
                                            replace q144 := eq_true q144
                                            go_wp2
                                            go_roundg k5
                                            case measure => have := HK1.out; have := HK2.out; have := HK3.out; have := HK4.out; have := HK5.out; omega
                                            case rel => exact ⟨(wrap64 (x156_5 + 1)), (by first | rfl | (simp; done) | (simp [*]; done)), H', ⟨by have := HK1.out; have := HK2.out; have := HK3.out; have := HK4.out; have := HK5.out; omega⟩, ⟨by (try simp only [hl6_1]); (try simp only [hl6_2]); (try simp only [hl6_3]); (try simp only [hl6_4]); (with_reducible repeat (first | apply Kd.S_alloc | apply Kd.S_drewN | apply Kd.S_drew)); exact HO_6.out⟩, ⟨by repeat (first | (with_reducible first | exact HB.out | apply below_alloc | apply pw_below_drewN | apply below_drew1) | exact HB.out)⟩⟩
                                        · rw [if_neg c71] at H
                                          exact absurd H (by simp)
                                      · rw [if_neg c70] at H
                                        exact absurd H (by simp)
                                    · rw [if_neg c69] at H
                                      exact absurd H (by simp)
                                  · rw [if_neg c68] at H
                                    have c68b0 : decide (x156_5 < a0) = false := decide_eq_false c68
                                    clear c68
                                    have H' := Aside0.mk H
                                    clear H
                                    go_wp2
                                    (try simp only [← hl6_3, ← hl6_4])
                                    go_roundg k5
                                    case measure => have := HK1.out; have := HK2.out; have := HK3.out; have := HK4.out; have := HK5.out; omega
                                    case rel => exact ⟨(x6_4), (wrap64 (x95_3 + 1)), (by first | rfl | (simp; done) | (simp [*]; done)), H', ⟨by have := HK1.out; have := HK2.out; have := HK3.out; have := HK4.out; have := HK5.out; omega⟩, ⟨by (try simp only [hl6_1]); (try simp only [hl6_2]); (try simp only [hl6_3]); (try simp only [hl6_4]); (with_reducible repeat (first | apply Kd.S_alloc | apply Kd.S_drewN | apply Kd.S_drew)); exact HO_6.out⟩, ⟨by repeat (first | (with_reducible first | exact HB.out | apply below_alloc | apply pw_below_drewN | apply below_drew1) | exact HB.out)⟩⟩
                      · rw [if_neg c50] at H
                        have c50b0 : decide (x95_3 < a0) = false := decide_eq_false c50
                        clear c50
                        simp only [Option.some.injEq, Prod.mk.injEq] at H
                        obtain ⟨rfl, rfl⟩ := H
                        go_wp2
                        go_ret2
                        exact ⟨_, by first | rfl | (simp [errW_none, errW_some] <;> rfl) | (simp [*, errW_none, errW_some] <;> rfl), by (with_reducible repeat (first | apply Kd.S_alloc | apply Kd.S_drewN | apply Kd.S_drew)); exact HO_6.out, by repeat (first | (with_reducible first | exact HB.out | apply below_alloc | apply pw_below_drewN | apply below_drew1) | exact HB.out)⟩
    · rw [if_neg c4] at H
      exact absurd H (by simp)
  · rw [if_neg c3] at H
    exact absurd H (by simp)
end Go.Proofs.Ytfbjpdiaicaagaa.PAll
