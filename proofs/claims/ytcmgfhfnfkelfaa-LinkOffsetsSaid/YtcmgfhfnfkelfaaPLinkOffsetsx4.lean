/- Written by a program of this session out of the translation. -/
import Derived.Test.YtcmgfhfnfkelfaaPLinkOffsetsx0
import Derived.Test.YtcmgfhfnfkelfaaPLinkOffsetsx1
import Derived.Test.YtcmgfhfnfkelfaaPLinkOffsetsx2
import Derived.Test.YtcmgfhfnfkelfaaPLinkOffsetsx3
namespace Go.Proofs.Ytcmgfhfnfkelfaa.PLinkOffsets
open Go.RowKit Go.Proofs.YtcmgfhfnfkelfaaW.PrintWords Go.Proofs.YtcmgfhfnfkelfaaW.PrintLast Go.Proofs.YtcmgfhfnfkelfaaW.PrintMore Go.Proofs.Ytcmgfhfnfkelfaa.More2
attribute [local go_sem] max2_int min2_int max_two min_two max_three min_three max_four min_four tdiv2e18_ tdiv1e18_  -- for this text's walks alone
set_option linter.unusedVariables false
set_option linter.unusedSimpArgs false

attribute [local go_sem high] eqA36
/-! ### ephemerislaw2_LinkOffsets: function 4 -/
mutual
def ephemerislaw2_LinkOffsets.j0 : Nat → List (S40) → Int → Int → Int → Int → Int → Int → Option (Bool)
  | 0, _, _, _, _, _, _, _ => none
  | k + 1, x0, x4, x5, x6, x7, x145000, x145001 => if (x0.length : Int) > 40 then (ephemerislaw2_LinkOffsets.j1 k x0 x4 2 x6 x7 x145000 x145001) else (ephemerislaw2_LinkOffsets.j1 k x0 x4 x5 x6 x7 x145000 x145001)
def ephemerislaw2_LinkOffsets.j1 : Nat → List (S40) → Int → Int → Int → Int → Int → Int → Option (Bool)
  | 0, _, _, _, _, _, _, _ => none
  | k + 1, x0, x4, x5, x6, x7, x145000, x145001 => ephemerislaw2_LinkOffsets.l0 k x4 x5 x6 x7 x0 (x0.length : Int) 0 x145000 x145001
def ephemerislaw2_LinkOffsets.l0 : Nat → Int → Int → Int → Int → List (S40) → Int → Int → Int → Int → Option (Bool)
  | 0, _, _, _, _, _, _, _, _, _ => none
  | k + 1, x4, x5, x6, x7, x29, x30, x31, x145000, x145001 => if x31 < x30 then (if 0 ≤ x31 then (if x31 < (x29.length : Int) then ((link_Offset.f k ((rd_T40 x29 x31).f0) ((rd_T40 x29 x31).f1) ((rd_T40 x29 x31).f2.f0) ((rd_T40 x29 x31).f2.f1)).bind fun bt147 => ((link_Delay.f k ((rd_T40 x29 x31).f0) ((rd_T40 x29 x31).f1) ((rd_T40 x29 x31).f2.f0) ((rd_T40 x29 x31).f2.f1)).bind fun bt151 => ((ephemerislaw2_exchangeErr.f k ((rd_T40 x29 x31).f0) ((rd_T40 x29 x31).f1) ((rd_T40 x29 x31).f2.f0) ((rd_T40 x29 x31).f2.f1)).bind fun t153 => ((link_Check.f k ((rd_T40 x29 x31).f0) ((rd_T40 x29 x31).f1) ((rd_T40 x29 x31).f2.f0) ((rd_T40 x29 x31).f2.f1)).bind fun t154 => (if t154 = t153 then (if t153 = 0 then (ephemerislaw2_LinkOffsets.j3 k x4 x5 x6 x7 x31 bt147.2.2 bt151.1 bt151.2 t153 x29 x30 x31 (decide ((wrap64 (((rd_T40 x29 x31).f2.f1) - ((rd_T40 x29 x31).f1))) > (wrap64 (((rd_T40 x29 x31).f2.f0) - ((rd_T40 x29 x31).f0))))) x145000 x145001 bt147.1 bt147.2.1 (wrap64 (((rd_T40 x29 x31).f2.f1) - ((rd_T40 x29 x31).f1))) (wrap64 (((rd_T40 x29 x31).f2.f0) - ((rd_T40 x29 x31).f0)))) else (ephemerislaw2_LinkOffsets.j3 k x4 x5 x6 x7 x31 bt147.2.2 bt151.1 bt151.2 t153 x29 x30 x31 false x145000 x145001 bt147.1 bt147.2.1 (wrap64 (((rd_T40 x29 x31).f2.f1) - ((rd_T40 x29 x31).f1))) (wrap64 (((rd_T40 x29 x31).f2.f0) - ((rd_T40 x29 x31).f0))))) else (some false)))))) else (none)) else (none)) else (if x5 = 0 then (ephemerislaw2_LinkOffsets.j8 k x4 x5 x6 x7 (decide (x6 > x7)) x145000 x145001) else (ephemerislaw2_LinkOffsets.j8 k x4 x5 x6 x7 false x145000 x145001))
def ephemerislaw2_LinkOffsets.j3 : Nat → Int → Int → Int → Int → Int → Int → Int → Int → Int → List (S40) → Int → Int → Bool → Int → Int → Int → Int → Int → Int → Option (Bool)
  | 0, _, _, _, _, _, _, _, _, _, _, _, _, _, _, _, _, _, _, _ => none
  | k + 1, x4, x5, x6, x7, x8, x11, x12, x13, x14, x29, x30, x31, x73, x145000, x145001, x151000, x151001, x156000, x156001 => if x73 = true then (ephemerislaw2_LinkOffsets.j4 k x4 x5 x6 x7 x8 x11 x12 x13 8 x29 x30 x31 x145000 x145001 x151000 x151001 x156000 x156001) else (ephemerislaw2_LinkOffsets.j4 k x4 x5 x6 x7 x8 x11 x12 x13 x14 x29 x30 x31 x145000 x145001 x151000 x151001 x156000 x156001)
def ephemerislaw2_LinkOffsets.j4 : Nat → Int → Int → Int → Int → Int → Int → Int → Int → Int → List (S40) → Int → Int → Int → Int → Int → Int → Int → Int → Option (Bool)
  | 0, _, _, _, _, _, _, _, _, _, _, _, _, _, _, _, _, _, _ => none
  | k + 1, x4, x5, x6, x7, x8, x11, x12, x13, x14, x29, x30, x31, x145000, x145001, x151000, x151001, x156000, x156001 => if x14 = 0 then (if x11 = 0 then (if (!(x151000 == x156000) || (!(x151001 == x156001))) = true then (some false) else (if x13 = 0 then (if x12 = (wrap64 (x156001 - x156000)) then (ephemerislaw2_LinkOffsets.j5 k x4 x5 x6 x7 x8 x14 x29 x30 x31 x145000 x145001 x156000 x156001) else (some false)) else (some false))) else (some false)) else ((ephemerislaw2_none.f x151000 x151001 x11 x14).bind fun t156 => (if t156 = true then (if x13 = x14 then (if x12 = 0 then (ephemerislaw2_LinkOffsets.j5 k x4 x5 x6 x7 x8 x14 x29 x30 x31 x145000 x145001 x156000 x156001) else (some false)) else (some false)) else (some false)))
def ephemerislaw2_LinkOffsets.j5 : Nat → Int → Int → Int → Int → Int → Int → List (S40) → Int → Int → Int → Int → Int → Int → Option (Bool)
  | 0, _, _, _, _, _, _, _, _, _, _, _, _, _ => none
  | k + 1, x4, x5, x6, x7, x8, x14, x29, x30, x31, x145000, x145001, x156000, x156001 => if x5 = 0 then (ephemerislaw2_LinkOffsets.j6 k x4 x14 x6 x7 x8 x29 x30 x31 x145000 x145001 x156000 x156001) else (ephemerislaw2_LinkOffsets.j6 k x4 x5 x6 x7 x8 x29 x30 x31 x145000 x145001 x156000 x156001)
def ephemerislaw2_LinkOffsets.j6 : Nat → Int → Int → Int → Int → Int → List (S40) → Int → Int → Int → Int → Int → Int → Option (Bool)
  | 0, _, _, _, _, _, _, _, _, _, _, _, _ => none
  | k + 1, x4, x5, x6, x7, x8, x29, x30, x31, x145000, x145001, x156000, x156001 => if x8 = 0 then (ephemerislaw2_LinkOffsets.j7 k x4 x5 x6 x7 x8 x29 x30 x31 true x145000 x145001 x156000 x156001) else (ephemerislaw2_LinkOffsets.j7 k x4 x5 x6 x7 x8 x29 x30 x31 (decide (x156000 > x6)) x145000 x145001 x156000 x156001)
def ephemerislaw2_LinkOffsets.j7 : Nat → Int → Int → Int → Int → Int → List (S40) → Int → Int → Bool → Int → Int → Int → Int → Option (Bool)
  | 0, _, _, _, _, _, _, _, _, _, _, _, _, _ => none
  | k + 1, x4, x5, x6, x7, x8, x29, x30, x31, x120, x145000, x145001, x156000, x156001 => if x120 = true then (if x8 = 0 then (ephemerislaw2_LinkOffsets.l0 k x4 x5 x156000 x156001 x29 x30 (wrap64 (x31 + 1)) x145000 x145001) else (if x156001 < x7 then (ephemerislaw2_LinkOffsets.l0 k x4 x5 x156000 x156001 x29 x30 (wrap64 (x31 + 1)) x145000 x145001) else (ephemerislaw2_LinkOffsets.l0 k x4 x5 x156000 x7 x29 x30 (wrap64 (x31 + 1)) x145000 x145001))) else (if x8 = 0 then (ephemerislaw2_LinkOffsets.l0 k x4 x5 x6 x156001 x29 x30 (wrap64 (x31 + 1)) x145000 x145001) else (if x156001 < x7 then (ephemerislaw2_LinkOffsets.l0 k x4 x5 x6 x156001 x29 x30 (wrap64 (x31 + 1)) x145000 x145001) else (ephemerislaw2_LinkOffsets.l0 k x4 x5 x6 x7 x29 x30 (wrap64 (x31 + 1)) x145000 x145001)))
def ephemerislaw2_LinkOffsets.j8 : Nat → Int → Int → Int → Int → Bool → Int → Int → Option (Bool)
  | 0, _, _, _, _, _, _, _ => none
  | k + 1, x4, x5, x6, x7, x140, x145000, x145001 => if x140 = true then (if 6 = 0 then (if x4 = 0 then (some (x145000 == x6 && (x145001 == x7))) else (some false)) else ((ephemerislaw2_none.f x145000 x145001 x4 6).bind fun t157 => (some t157))) else (if x5 = 0 then (if x4 = 0 then (some (x145000 == x6 && (x145001 == x7))) else (some false)) else ((ephemerislaw2_none.f x145000 x145001 x4 x5).bind fun t158 => (some t158)))
end
def ephemerislaw2_LinkOffsets.f (k : Nat) (l0 : List (S40)) : Option (Bool) := (ephemerislaw2_linkWorks.f k).bind fun t140 => (if t140 = true then ((link_Best.f k l0).bind fun bt141 => (if (l0.length : Int) = 0 then (ephemerislaw2_LinkOffsets.j0 k l0 bt141.2.2 6 0 0 bt141.1 bt141.2.1) else (ephemerislaw2_LinkOffsets.j0 k l0 bt141.2.2 0 0 0 bt141.1 bt141.2.1))) else (some false))
theorem ephemerislaw2_LinkOffsets.mono_l : ∀ k, (∀ y0 y1 y2 y3 y4 y5 y6, LeO (ephemerislaw2_LinkOffsets.j0 k y0 y1 y2 y3 y4 y5 y6) (ephemerislaw2_LinkOffsets.j0 (k + 1) y0 y1 y2 y3 y4 y5 y6)) ∧ (∀ y0 y1 y2 y3 y4 y5 y6, LeO (ephemerislaw2_LinkOffsets.j1 k y0 y1 y2 y3 y4 y5 y6) (ephemerislaw2_LinkOffsets.j1 (k + 1) y0 y1 y2 y3 y4 y5 y6)) ∧ (∀ y0 y1 y2 y3 y4 y5 y6 y7 y8, LeO (ephemerislaw2_LinkOffsets.l0 k y0 y1 y2 y3 y4 y5 y6 y7 y8) (ephemerislaw2_LinkOffsets.l0 (k + 1) y0 y1 y2 y3 y4 y5 y6 y7 y8)) ∧ (∀ y0 y1 y2 y3 y4 y5 y6 y7 y8 y9 y10 y11 y12 y13 y14 y15 y16 y17 y18, LeO (ephemerislaw2_LinkOffsets.j3 k y0 y1 y2 y3 y4 y5 y6 y7 y8 y9 y10 y11 y12 y13 y14 y15 y16 y17 y18) (ephemerislaw2_LinkOffsets.j3 (k + 1) y0 y1 y2 y3 y4 y5 y6 y7 y8 y9 y10 y11 y12 y13 y14 y15 y16 y17 y18)) ∧ (∀ y0 y1 y2 y3 y4 y5 y6 y7 y8 y9 y10 y11 y12 y13 y14 y15 y16 y17, LeO (ephemerislaw2_LinkOffsets.j4 k y0 y1 y2 y3 y4 y5 y6 y7 y8 y9 y10 y11 y12 y13 y14 y15 y16 y17) (ephemerislaw2_LinkOffsets.j4 (k + 1) y0 y1 y2 y3 y4 y5 y6 y7 y8 y9 y10 y11 y12 y13 y14 y15 y16 y17)) ∧ (∀ y0 y1 y2 y3 y4 y5 y6 y7 y8 y9 y10 y11 y12, LeO (ephemerislaw2_LinkOffsets.j5 k y0 y1 y2 y3 y4 y5 y6 y7 y8 y9 y10 y11 y12) (ephemerislaw2_LinkOffsets.j5 (k + 1) y0 y1 y2 y3 y4 y5 y6 y7 y8 y9 y10 y11 y12)) ∧ (∀ y0 y1 y2 y3 y4 y5 y6 y7 y8 y9 y10 y11, LeO (ephemerislaw2_LinkOffsets.j6 k y0 y1 y2 y3 y4 y5 y6 y7 y8 y9 y10 y11) (ephemerislaw2_LinkOffsets.j6 (k + 1) y0 y1 y2 y3 y4 y5 y6 y7 y8 y9 y10 y11)) ∧ (∀ y0 y1 y2 y3 y4 y5 y6 y7 y8 y9 y10 y11 y12, LeO (ephemerislaw2_LinkOffsets.j7 k y0 y1 y2 y3 y4 y5 y6 y7 y8 y9 y10 y11 y12) (ephemerislaw2_LinkOffsets.j7 (k + 1) y0 y1 y2 y3 y4 y5 y6 y7 y8 y9 y10 y11 y12)) ∧ (∀ y0 y1 y2 y3 y4 y5 y6, LeO (ephemerislaw2_LinkOffsets.j8 k y0 y1 y2 y3 y4 y5 y6) (ephemerislaw2_LinkOffsets.j8 (k + 1) y0 y1 y2 y3 y4 y5 y6))
  | 0 => ⟨fun _ _ _ _ _ _ _ r h => by simp [ephemerislaw2_LinkOffsets.j0] at h, fun _ _ _ _ _ _ _ r h => by simp [ephemerislaw2_LinkOffsets.j1] at h, fun _ _ _ _ _ _ _ _ _ r h => by simp [ephemerislaw2_LinkOffsets.l0] at h, fun _ _ _ _ _ _ _ _ _ _ _ _ _ _ _ _ _ _ _ r h => by simp [ephemerislaw2_LinkOffsets.j3] at h, fun _ _ _ _ _ _ _ _ _ _ _ _ _ _ _ _ _ _ r h => by simp [ephemerislaw2_LinkOffsets.j4] at h, fun _ _ _ _ _ _ _ _ _ _ _ _ _ r h => by simp [ephemerislaw2_LinkOffsets.j5] at h, fun _ _ _ _ _ _ _ _ _ _ _ _ r h => by simp [ephemerislaw2_LinkOffsets.j6] at h, fun _ _ _ _ _ _ _ _ _ _ _ _ _ r h => by simp [ephemerislaw2_LinkOffsets.j7] at h, fun _ _ _ _ _ _ _ r h => by simp [ephemerislaw2_LinkOffsets.j8] at h⟩
  | k + 1 => by
    obtain ⟨ih0, ih1, ih2, ih3, ih4, ih5, ih6, ih7, ih8⟩ := ephemerislaw2_LinkOffsets.mono_l k
    refine ⟨?_, ?_, ?_, ?_, ?_, ?_, ?_, ?_, ?_⟩
    · intro y0 y1 y2 y3 y4 y5 y6
      unfold ephemerislaw2_LinkOffsets.j0
      repeat' first
      | (with_reducible exact ih0 _ _ _ _ _ _ _)
      | (with_reducible exact ih1 _ _ _ _ _ _ _)
      | (with_reducible exact ih2 _ _ _ _ _ _ _ _ _)
      | (with_reducible exact ih3 _ _ _ _ _ _ _ _ _ _ _ _ _ _ _ _ _ _ _)
      | (with_reducible exact ih4 _ _ _ _ _ _ _ _ _ _ _ _ _ _ _ _ _ _)
      | (with_reducible exact ih5 _ _ _ _ _ _ _ _ _ _ _ _ _)
      | (with_reducible exact ih6 _ _ _ _ _ _ _ _ _ _ _ _)
      | (with_reducible exact ih7 _ _ _ _ _ _ _ _ _ _ _ _ _)
      | (with_reducible exact ih8 _ _ _ _ _ _ _)
      | (with_reducible exact ephemerislaw2_exchangeErr.mono _ _ _ _ _)
      | (with_reducible exact ephemerislaw2_linkWorks.mono _)
      | (with_reducible exact link_Best.mono _ _)
      | (with_reducible exact link_Check.mono _ _ _ _ _)
      | (with_reducible exact link_Delay.mono _ _ _ _ _)
      | (with_reducible exact link_Offset.mono _ _ _ _ _)
      | (with_reducible exact LeO.refl _)
      | (with_reducible exact LeO.none _)
      | (with_reducible refine LeO.ite ?_ ?_)
      | (with_reducible refine LeO.bind ?_ (fun _ => ?_))
      | exact ih0 _ _ _ _ _ _ _
      | exact ih1 _ _ _ _ _ _ _
      | exact ih2 _ _ _ _ _ _ _ _ _
      | exact ih3 _ _ _ _ _ _ _ _ _ _ _ _ _ _ _ _ _ _ _
      | exact ih4 _ _ _ _ _ _ _ _ _ _ _ _ _ _ _ _ _ _
      | exact ih5 _ _ _ _ _ _ _ _ _ _ _ _ _
      | exact ih6 _ _ _ _ _ _ _ _ _ _ _ _
      | exact ih7 _ _ _ _ _ _ _ _ _ _ _ _ _
      | exact ih8 _ _ _ _ _ _ _
      | exact ephemerislaw2_exchangeErr.mono _ _ _ _ _
      | exact ephemerislaw2_linkWorks.mono _
      | exact link_Best.mono _ _
      | exact link_Check.mono _ _ _ _ _
      | exact link_Delay.mono _ _ _ _ _
      | exact link_Offset.mono _ _ _ _ _
      | exact LeO.none _
      | refine LeO.ite ?_ ?_
      | refine LeO.bind ?_ (fun _ => ?_)
    · intro y0 y1 y2 y3 y4 y5 y6
      unfold ephemerislaw2_LinkOffsets.j1
      repeat' first
      | (with_reducible exact ih0 _ _ _ _ _ _ _)
      | (with_reducible exact ih1 _ _ _ _ _ _ _)
      | (with_reducible exact ih2 _ _ _ _ _ _ _ _ _)
      | (with_reducible exact ih3 _ _ _ _ _ _ _ _ _ _ _ _ _ _ _ _ _ _ _)
      | (with_reducible exact ih4 _ _ _ _ _ _ _ _ _ _ _ _ _ _ _ _ _ _)
      | (with_reducible exact ih5 _ _ _ _ _ _ _ _ _ _ _ _ _)
      | (with_reducible exact ih6 _ _ _ _ _ _ _ _ _ _ _ _)
      | (with_reducible exact ih7 _ _ _ _ _ _ _ _ _ _ _ _ _)
      | (with_reducible exact ih8 _ _ _ _ _ _ _)
      | (with_reducible exact ephemerislaw2_exchangeErr.mono _ _ _ _ _)
      | (with_reducible exact ephemerislaw2_linkWorks.mono _)
      | (with_reducible exact link_Best.mono _ _)
      | (with_reducible exact link_Check.mono _ _ _ _ _)
      | (with_reducible exact link_Delay.mono _ _ _ _ _)
      | (with_reducible exact link_Offset.mono _ _ _ _ _)
      | (with_reducible exact LeO.refl _)
      | (with_reducible exact LeO.none _)
      | (with_reducible refine LeO.ite ?_ ?_)
      | (with_reducible refine LeO.bind ?_ (fun _ => ?_))
      | exact ih0 _ _ _ _ _ _ _
      | exact ih1 _ _ _ _ _ _ _
      | exact ih2 _ _ _ _ _ _ _ _ _
      | exact ih3 _ _ _ _ _ _ _ _ _ _ _ _ _ _ _ _ _ _ _
      | exact ih4 _ _ _ _ _ _ _ _ _ _ _ _ _ _ _ _ _ _
      | exact ih5 _ _ _ _ _ _ _ _ _ _ _ _ _
      | exact ih6 _ _ _ _ _ _ _ _ _ _ _ _
      | exact ih7 _ _ _ _ _ _ _ _ _ _ _ _ _
      | exact ih8 _ _ _ _ _ _ _
      | exact ephemerislaw2_exchangeErr.mono _ _ _ _ _
      | exact ephemerislaw2_linkWorks.mono _
      | exact link_Best.mono _ _
      | exact link_Check.mono _ _ _ _ _
      | exact link_Delay.mono _ _ _ _ _
      | exact link_Offset.mono _ _ _ _ _
      | exact LeO.none _
      | refine LeO.ite ?_ ?_
      | refine LeO.bind ?_ (fun _ => ?_)
    · intro y0 y1 y2 y3 y4 y5 y6 y7 y8
      unfold ephemerislaw2_LinkOffsets.l0
      repeat' first
      | (with_reducible exact ih0 _ _ _ _ _ _ _)
      | (with_reducible exact ih1 _ _ _ _ _ _ _)
      | (with_reducible exact ih2 _ _ _ _ _ _ _ _ _)
      | (with_reducible exact ih3 _ _ _ _ _ _ _ _ _ _ _ _ _ _ _ _ _ _ _)
      | (with_reducible exact ih4 _ _ _ _ _ _ _ _ _ _ _ _ _ _ _ _ _ _)
      | (with_reducible exact ih5 _ _ _ _ _ _ _ _ _ _ _ _ _)
      | (with_reducible exact ih6 _ _ _ _ _ _ _ _ _ _ _ _)
      | (with_reducible exact ih7 _ _ _ _ _ _ _ _ _ _ _ _ _)
      | (with_reducible exact ih8 _ _ _ _ _ _ _)
      | (with_reducible exact ephemerislaw2_exchangeErr.mono _ _ _ _ _)
      | (with_reducible exact ephemerislaw2_linkWorks.mono _)
      | (with_reducible exact link_Best.mono _ _)
      | (with_reducible exact link_Check.mono _ _ _ _ _)
      | (with_reducible exact link_Delay.mono _ _ _ _ _)
      | (with_reducible exact link_Offset.mono _ _ _ _ _)
      | (with_reducible exact LeO.refl _)
      | (with_reducible exact LeO.none _)
      | (with_reducible refine LeO.ite ?_ ?_)
      | (with_reducible refine LeO.bind ?_ (fun _ => ?_))
      | exact ih0 _ _ _ _ _ _ _
      | exact ih1 _ _ _ _ _ _ _
      | exact ih2 _ _ _ _ _ _ _ _ _
      | exact ih3 _ _ _ _ _ _ _ _ _ _ _ _ _ _ _ _ _ _ _
      | exact ih4 _ _ _ _ _ _ _ _ _ _ _ _ _ _ _ _ _ _
      | exact ih5 _ _ _ _ _ _ _ _ _ _ _ _ _
      | exact ih6 _ _ _ _ _ _ _ _ _ _ _ _
      | exact ih7 _ _ _ _ _ _ _ _ _ _ _ _ _
      | exact ih8 _ _ _ _ _ _ _
      | exact ephemerislaw2_exchangeErr.mono _ _ _ _ _
      | exact ephemerislaw2_linkWorks.mono _
      | exact link_Best.mono _ _
      | exact link_Check.mono _ _ _ _ _
      | exact link_Delay.mono _ _ _ _ _
      | exact link_Offset.mono _ _ _ _ _
      | exact LeO.none _
      | refine LeO.ite ?_ ?_
      | refine LeO.bind ?_ (fun _ => ?_)
    · intro y0 y1 y2 y3 y4 y5 y6 y7 y8 y9 y10 y11 y12 y13 y14 y15 y16 y17 y18
      unfold ephemerislaw2_LinkOffsets.j3
      repeat' first
      | (with_reducible exact ih0 _ _ _ _ _ _ _)
      | (with_reducible exact ih1 _ _ _ _ _ _ _)
      | (with_reducible exact ih2 _ _ _ _ _ _ _ _ _)
      | (with_reducible exact ih3 _ _ _ _ _ _ _ _ _ _ _ _ _ _ _ _ _ _ _)
      | (with_reducible exact ih4 _ _ _ _ _ _ _ _ _ _ _ _ _ _ _ _ _ _)
      | (with_reducible exact ih5 _ _ _ _ _ _ _ _ _ _ _ _ _)
      | (with_reducible exact ih6 _ _ _ _ _ _ _ _ _ _ _ _)
      | (with_reducible exact ih7 _ _ _ _ _ _ _ _ _ _ _ _ _)
      | (with_reducible exact ih8 _ _ _ _ _ _ _)
      | (with_reducible exact ephemerislaw2_exchangeErr.mono _ _ _ _ _)
      | (with_reducible exact ephemerislaw2_linkWorks.mono _)
      | (with_reducible exact link_Best.mono _ _)
      | (with_reducible exact link_Check.mono _ _ _ _ _)
      | (with_reducible exact link_Delay.mono _ _ _ _ _)
      | (with_reducible exact link_Offset.mono _ _ _ _ _)
      | (with_reducible exact LeO.refl _)
      | (with_reducible exact LeO.none _)
      | (with_reducible refine LeO.ite ?_ ?_)
      | (with_reducible refine LeO.bind ?_ (fun _ => ?_))
      | exact ih0 _ _ _ _ _ _ _
      | exact ih1 _ _ _ _ _ _ _
      | exact ih2 _ _ _ _ _ _ _ _ _
      | exact ih3 _ _ _ _ _ _ _ _ _ _ _ _ _ _ _ _ _ _ _
      | exact ih4 _ _ _ _ _ _ _ _ _ _ _ _ _ _ _ _ _ _
      | exact ih5 _ _ _ _ _ _ _ _ _ _ _ _ _
      | exact ih6 _ _ _ _ _ _ _ _ _ _ _ _
      | exact ih7 _ _ _ _ _ _ _ _ _ _ _ _ _
      | exact ih8 _ _ _ _ _ _ _
      | exact ephemerislaw2_exchangeErr.mono _ _ _ _ _
      | exact ephemerislaw2_linkWorks.mono _
      | exact link_Best.mono _ _
      | exact link_Check.mono _ _ _ _ _
      | exact link_Delay.mono _ _ _ _ _
      | exact link_Offset.mono _ _ _ _ _
      | exact LeO.none _
      | refine LeO.ite ?_ ?_
      | refine LeO.bind ?_ (fun _ => ?_)
    · intro y0 y1 y2 y3 y4 y5 y6 y7 y8 y9 y10 y11 y12 y13 y14 y15 y16 y17
      unfold ephemerislaw2_LinkOffsets.j4
      repeat' first
      | (with_reducible exact ih0 _ _ _ _ _ _ _)
      | (with_reducible exact ih1 _ _ _ _ _ _ _)
      | (with_reducible exact ih2 _ _ _ _ _ _ _ _ _)
      | (with_reducible exact ih3 _ _ _ _ _ _ _ _ _ _ _ _ _ _ _ _ _ _ _)
      | (with_reducible exact ih4 _ _ _ _ _ _ _ _ _ _ _ _ _ _ _ _ _ _)
      | (with_reducible exact ih5 _ _ _ _ _ _ _ _ _ _ _ _ _)
      | (with_reducible exact ih6 _ _ _ _ _ _ _ _ _ _ _ _)
      | (with_reducible exact ih7 _ _ _ _ _ _ _ _ _ _ _ _ _)
      | (with_reducible exact ih8 _ _ _ _ _ _ _)
      | (with_reducible exact ephemerislaw2_exchangeErr.mono _ _ _ _ _)
      | (with_reducible exact ephemerislaw2_linkWorks.mono _)
      | (with_reducible exact link_Best.mono _ _)
      | (with_reducible exact link_Check.mono _ _ _ _ _)
      | (with_reducible exact link_Delay.mono _ _ _ _ _)
      | (with_reducible exact link_Offset.mono _ _ _ _ _)
      | (with_reducible exact LeO.refl _)
      | (with_reducible exact LeO.none _)
      | (with_reducible refine LeO.ite ?_ ?_)
      | (with_reducible refine LeO.bind ?_ (fun _ => ?_))
      | exact ih0 _ _ _ _ _ _ _
      | exact ih1 _ _ _ _ _ _ _
      | exact ih2 _ _ _ _ _ _ _ _ _
      | exact ih3 _ _ _ _ _ _ _ _ _ _ _ _ _ _ _ _ _ _ _
      | exact ih4 _ _ _ _ _ _ _ _ _ _ _ _ _ _ _ _ _ _
      | exact ih5 _ _ _ _ _ _ _ _ _ _ _ _ _
      | exact ih6 _ _ _ _ _ _ _ _ _ _ _ _
      | exact ih7 _ _ _ _ _ _ _ _ _ _ _ _ _
      | exact ih8 _ _ _ _ _ _ _
      | exact ephemerislaw2_exchangeErr.mono _ _ _ _ _
      | exact ephemerislaw2_linkWorks.mono _
      | exact link_Best.mono _ _
      | exact link_Check.mono _ _ _ _ _
      | exact link_Delay.mono _ _ _ _ _
      | exact link_Offset.mono _ _ _ _ _
      | exact LeO.none _
      | refine LeO.ite ?_ ?_
      | refine LeO.bind ?_ (fun _ => ?_)
    · intro y0 y1 y2 y3 y4 y5 y6 y7 y8 y9 y10 y11 y12
      unfold ephemerislaw2_LinkOffsets.j5
      repeat' first
      | (with_reducible exact ih0 _ _ _ _ _ _ _)
      | (with_reducible exact ih1 _ _ _ _ _ _ _)
      | (with_reducible exact ih2 _ _ _ _ _ _ _ _ _)
      | (with_reducible exact ih3 _ _ _ _ _ _ _ _ _ _ _ _ _ _ _ _ _ _ _)
      | (with_reducible exact ih4 _ _ _ _ _ _ _ _ _ _ _ _ _ _ _ _ _ _)
      | (with_reducible exact ih5 _ _ _ _ _ _ _ _ _ _ _ _ _)
      | (with_reducible exact ih6 _ _ _ _ _ _ _ _ _ _ _ _)
      | (with_reducible exact ih7 _ _ _ _ _ _ _ _ _ _ _ _ _)
      | (with_reducible exact ih8 _ _ _ _ _ _ _)
      | (with_reducible exact ephemerislaw2_exchangeErr.mono _ _ _ _ _)
      | (with_reducible exact ephemerislaw2_linkWorks.mono _)
      | (with_reducible exact link_Best.mono _ _)
      | (with_reducible exact link_Check.mono _ _ _ _ _)
      | (with_reducible exact link_Delay.mono _ _ _ _ _)
      | (with_reducible exact link_Offset.mono _ _ _ _ _)
      | (with_reducible exact LeO.refl _)
      | (with_reducible exact LeO.none _)
      | (with_reducible refine LeO.ite ?_ ?_)
      | (with_reducible refine LeO.bind ?_ (fun _ => ?_))
      | exact ih0 _ _ _ _ _ _ _
      | exact ih1 _ _ _ _ _ _ _
      | exact ih2 _ _ _ _ _ _ _ _ _
      | exact ih3 _ _ _ _ _ _ _ _ _ _ _ _ _ _ _ _ _ _ _
      | exact ih4 _ _ _ _ _ _ _ _ _ _ _ _ _ _ _ _ _ _
      | exact ih5 _ _ _ _ _ _ _ _ _ _ _ _ _
      | exact ih6 _ _ _ _ _ _ _ _ _ _ _ _
      | exact ih7 _ _ _ _ _ _ _ _ _ _ _ _ _
      | exact ih8 _ _ _ _ _ _ _
      | exact ephemerislaw2_exchangeErr.mono _ _ _ _ _
      | exact ephemerislaw2_linkWorks.mono _
      | exact link_Best.mono _ _
      | exact link_Check.mono _ _ _ _ _
      | exact link_Delay.mono _ _ _ _ _
      | exact link_Offset.mono _ _ _ _ _
      | exact LeO.none _
      | refine LeO.ite ?_ ?_
      | refine LeO.bind ?_ (fun _ => ?_)
    · intro y0 y1 y2 y3 y4 y5 y6 y7 y8 y9 y10 y11
      unfold ephemerislaw2_LinkOffsets.j6
      repeat' first
      | (with_reducible exact ih0 _ _ _ _ _ _ _)
      | (with_reducible exact ih1 _ _ _ _ _ _ _)
      | (with_reducible exact ih2 _ _ _ _ _ _ _ _ _)
      | (with_reducible exact ih3 _ _ _ _ _ _ _ _ _ _ _ _ _ _ _ _ _ _ _)
      | (with_reducible exact ih4 _ _ _ _ _ _ _ _ _ _ _ _ _ _ _ _ _ _)
      | (with_reducible exact ih5 _ _ _ _ _ _ _ _ _ _ _ _ _)
      | (with_reducible exact ih6 _ _ _ _ _ _ _ _ _ _ _ _)
      | (with_reducible exact ih7 _ _ _ _ _ _ _ _ _ _ _ _ _)
      | (with_reducible exact ih8 _ _ _ _ _ _ _)
      | (with_reducible exact ephemerislaw2_exchangeErr.mono _ _ _ _ _)
      | (with_reducible exact ephemerislaw2_linkWorks.mono _)
      | (with_reducible exact link_Best.mono _ _)
      | (with_reducible exact link_Check.mono _ _ _ _ _)
      | (with_reducible exact link_Delay.mono _ _ _ _ _)
      | (with_reducible exact link_Offset.mono _ _ _ _ _)
      | (with_reducible exact LeO.refl _)
      | (with_reducible exact LeO.none _)
      | (with_reducible refine LeO.ite ?_ ?_)
      | (with_reducible refine LeO.bind ?_ (fun _ => ?_))
      | exact ih0 _ _ _ _ _ _ _
      | exact ih1 _ _ _ _ _ _ _
      | exact ih2 _ _ _ _ _ _ _ _ _
      | exact ih3 _ _ _ _ _ _ _ _ _ _ _ _ _ _ _ _ _ _ _
      | exact ih4 _ _ _ _ _ _ _ _ _ _ _ _ _ _ _ _ _ _
      | exact ih5 _ _ _ _ _ _ _ _ _ _ _ _ _
      | exact ih6 _ _ _ _ _ _ _ _ _ _ _ _
      | exact ih7 _ _ _ _ _ _ _ _ _ _ _ _ _
      | exact ih8 _ _ _ _ _ _ _
      | exact ephemerislaw2_exchangeErr.mono _ _ _ _ _
      | exact ephemerislaw2_linkWorks.mono _
      | exact link_Best.mono _ _
      | exact link_Check.mono _ _ _ _ _
      | exact link_Delay.mono _ _ _ _ _
      | exact link_Offset.mono _ _ _ _ _
      | exact LeO.none _
      | refine LeO.ite ?_ ?_
      | refine LeO.bind ?_ (fun _ => ?_)
    · intro y0 y1 y2 y3 y4 y5 y6 y7 y8 y9 y10 y11 y12
      unfold ephemerislaw2_LinkOffsets.j7
      repeat' first
      | (with_reducible exact ih0 _ _ _ _ _ _ _)
      | (with_reducible exact ih1 _ _ _ _ _ _ _)
      | (with_reducible exact ih2 _ _ _ _ _ _ _ _ _)
      | (with_reducible exact ih3 _ _ _ _ _ _ _ _ _ _ _ _ _ _ _ _ _ _ _)
      | (with_reducible exact ih4 _ _ _ _ _ _ _ _ _ _ _ _ _ _ _ _ _ _)
      | (with_reducible exact ih5 _ _ _ _ _ _ _ _ _ _ _ _ _)
      | (with_reducible exact ih6 _ _ _ _ _ _ _ _ _ _ _ _)
      | (with_reducible exact ih7 _ _ _ _ _ _ _ _ _ _ _ _ _)
      | (with_reducible exact ih8 _ _ _ _ _ _ _)
      | (with_reducible exact ephemerislaw2_exchangeErr.mono _ _ _ _ _)
      | (with_reducible exact ephemerislaw2_linkWorks.mono _)
      | (with_reducible exact link_Best.mono _ _)
      | (with_reducible exact link_Check.mono _ _ _ _ _)
      | (with_reducible exact link_Delay.mono _ _ _ _ _)
      | (with_reducible exact link_Offset.mono _ _ _ _ _)
      | (with_reducible exact LeO.refl _)
      | (with_reducible exact LeO.none _)
      | (with_reducible refine LeO.ite ?_ ?_)
      | (with_reducible refine LeO.bind ?_ (fun _ => ?_))
      | exact ih0 _ _ _ _ _ _ _
      | exact ih1 _ _ _ _ _ _ _
      | exact ih2 _ _ _ _ _ _ _ _ _
      | exact ih3 _ _ _ _ _ _ _ _ _ _ _ _ _ _ _ _ _ _ _
      | exact ih4 _ _ _ _ _ _ _ _ _ _ _ _ _ _ _ _ _ _
      | exact ih5 _ _ _ _ _ _ _ _ _ _ _ _ _
      | exact ih6 _ _ _ _ _ _ _ _ _ _ _ _
      | exact ih7 _ _ _ _ _ _ _ _ _ _ _ _ _
      | exact ih8 _ _ _ _ _ _ _
      | exact ephemerislaw2_exchangeErr.mono _ _ _ _ _
      | exact ephemerislaw2_linkWorks.mono _
      | exact link_Best.mono _ _
      | exact link_Check.mono _ _ _ _ _
      | exact link_Delay.mono _ _ _ _ _
      | exact link_Offset.mono _ _ _ _ _
      | exact LeO.none _
      | refine LeO.ite ?_ ?_
      | refine LeO.bind ?_ (fun _ => ?_)
    · intro y0 y1 y2 y3 y4 y5 y6
      unfold ephemerislaw2_LinkOffsets.j8
      repeat' first
      | (with_reducible exact ih0 _ _ _ _ _ _ _)
      | (with_reducible exact ih1 _ _ _ _ _ _ _)
      | (with_reducible exact ih2 _ _ _ _ _ _ _ _ _)
      | (with_reducible exact ih3 _ _ _ _ _ _ _ _ _ _ _ _ _ _ _ _ _ _ _)
      | (with_reducible exact ih4 _ _ _ _ _ _ _ _ _ _ _ _ _ _ _ _ _ _)
      | (with_reducible exact ih5 _ _ _ _ _ _ _ _ _ _ _ _ _)
      | (with_reducible exact ih6 _ _ _ _ _ _ _ _ _ _ _ _)
      | (with_reducible exact ih7 _ _ _ _ _ _ _ _ _ _ _ _ _)
      | (with_reducible exact ih8 _ _ _ _ _ _ _)
      | (with_reducible exact ephemerislaw2_exchangeErr.mono _ _ _ _ _)
      | (with_reducible exact ephemerislaw2_linkWorks.mono _)
      | (with_reducible exact link_Best.mono _ _)
      | (with_reducible exact link_Check.mono _ _ _ _ _)
      | (with_reducible exact link_Delay.mono _ _ _ _ _)
      | (with_reducible exact link_Offset.mono _ _ _ _ _)
      | (with_reducible exact LeO.refl _)
      | (with_reducible exact LeO.none _)
      | (with_reducible refine LeO.ite ?_ ?_)
      | (with_reducible refine LeO.bind ?_ (fun _ => ?_))
      | exact ih0 _ _ _ _ _ _ _
      | exact ih1 _ _ _ _ _ _ _
      | exact ih2 _ _ _ _ _ _ _ _ _
      | exact ih3 _ _ _ _ _ _ _ _ _ _ _ _ _ _ _ _ _ _ _
      | exact ih4 _ _ _ _ _ _ _ _ _ _ _ _ _ _ _ _ _ _
      | exact ih5 _ _ _ _ _ _ _ _ _ _ _ _ _
      | exact ih6 _ _ _ _ _ _ _ _ _ _ _ _
      | exact ih7 _ _ _ _ _ _ _ _ _ _ _ _ _
      | exact ih8 _ _ _ _ _ _ _
      | exact ephemerislaw2_exchangeErr.mono _ _ _ _ _
      | exact ephemerislaw2_linkWorks.mono _
      | exact link_Best.mono _ _
      | exact link_Check.mono _ _ _ _ _
      | exact link_Delay.mono _ _ _ _ _
      | exact link_Offset.mono _ _ _ _ _
      | exact LeO.none _
      | refine LeO.ite ?_ ?_
      | refine LeO.bind ?_ (fun _ => ?_)
theorem ephemerislaw2_LinkOffsets.mono : ∀ a0 k, LeO (ephemerislaw2_LinkOffsets.f k a0) (ephemerislaw2_LinkOffsets.f (k + 1) a0) := by
  intro a0 k
  obtain ⟨ih0, ih1, ih2, ih3, ih4, ih5, ih6, ih7, ih8⟩ := ephemerislaw2_LinkOffsets.mono_l k
  unfold ephemerislaw2_LinkOffsets.f
  repeat' first
      | (with_reducible exact ih0 _ _ _ _ _ _ _)
      | (with_reducible exact ih1 _ _ _ _ _ _ _)
      | (with_reducible exact ih2 _ _ _ _ _ _ _ _ _)
      | (with_reducible exact ih3 _ _ _ _ _ _ _ _ _ _ _ _ _ _ _ _ _ _ _)
      | (with_reducible exact ih4 _ _ _ _ _ _ _ _ _ _ _ _ _ _ _ _ _ _)
      | (with_reducible exact ih5 _ _ _ _ _ _ _ _ _ _ _ _ _)
      | (with_reducible exact ih6 _ _ _ _ _ _ _ _ _ _ _ _)
      | (with_reducible exact ih7 _ _ _ _ _ _ _ _ _ _ _ _ _)
      | (with_reducible exact ih8 _ _ _ _ _ _ _)
      | (with_reducible exact ephemerislaw2_exchangeErr.mono _ _ _ _ _)
      | (with_reducible exact ephemerislaw2_linkWorks.mono _)
      | (with_reducible exact link_Best.mono _ _)
      | (with_reducible exact link_Check.mono _ _ _ _ _)
      | (with_reducible exact link_Delay.mono _ _ _ _ _)
      | (with_reducible exact link_Offset.mono _ _ _ _ _)
      | (with_reducible exact LeO.refl _)
      | (with_reducible exact LeO.none _)
      | (with_reducible refine LeO.ite ?_ ?_)
      | (with_reducible refine LeO.bind ?_ (fun _ => ?_))
      | exact ih0 _ _ _ _ _ _ _
      | exact ih1 _ _ _ _ _ _ _
      | exact ih2 _ _ _ _ _ _ _ _ _
      | exact ih3 _ _ _ _ _ _ _ _ _ _ _ _ _ _ _ _ _ _ _
      | exact ih4 _ _ _ _ _ _ _ _ _ _ _ _ _ _ _ _ _ _
      | exact ih5 _ _ _ _ _ _ _ _ _ _ _ _ _
      | exact ih6 _ _ _ _ _ _ _ _ _ _ _ _
      | exact ih7 _ _ _ _ _ _ _ _ _ _ _ _ _
      | exact ih8 _ _ _ _ _ _ _
      | exact ephemerislaw2_exchangeErr.mono _ _ _ _ _
      | exact ephemerislaw2_linkWorks.mono _
      | exact link_Best.mono _ _
      | exact link_Check.mono _ _ _ _ _
      | exact link_Delay.mono _ _ _ _ _
      | exact link_Offset.mono _ _ _ _ _
      | exact LeO.none _
      | refine LeO.ite ?_ ?_
      | refine LeO.bind ?_ (fun _ => ?_)
set_option maxHeartbeats 8000000 in
set_option maxRecDepth 100000 in
theorem ephemerislaw2_LinkOffsets.calls (k : Nat) (A0 : Option Addr) (c0 : Nat) (l0 : List (S40)) (r : Bool) (w : World) (hr0 : Kd.C k40 w A0 l0.length l0) (hc0 : l0.length ≤ c0) (h : ephemerislaw2_LinkOffsets.f k l0 = some r) :
    Calls Try.prog 4 #[.slice A0 l0.length c0] w fun e w' => e = .returned (.bool r) ∧ Below w.heap.size w w' := by
  have hu36 := Try.underlying36
  have hu40 := Try.underlying40
  have HR0 := Aside0.mk hr0
  have HC0 := Aside0.mk hc0
  clear hr0 hc0
  have HB := Aside0.mk (Below.refl w.heap.size w)
  have H : ((ephemerislaw2_linkWorks.f k).bind fun t140 => (if t140 = true then ((link_Best.f k l0).bind fun bt141 => (if (l0.length : Int) = 0 then (ephemerislaw2_LinkOffsets.j0 k l0 bt141.2.2 6 0 0 bt141.1 bt141.2.1) else (ephemerislaw2_LinkOffsets.j0 k l0 bt141.2.2 0 0 0 bt141.1 bt141.2.1))) else (some false))) = some r := h
  clear h
  replace H := Option.bind_eq_some_iff.mp H
  obtain ⟨t140, A20, H⟩ := H
  replace H : (if t140 = true then ((link_Best.f k l0).bind fun bt141 => (if (l0.length : Int) = 0 then (ephemerislaw2_LinkOffsets.j0 k l0 bt141.2.2 6 0 0 bt141.1 bt141.2.1) else (ephemerislaw2_LinkOffsets.j0 k l0 bt141.2.2 0 0 0 bt141.1 bt141.2.1))) else (some false)) = some r := H
  have A2 := Aside0.mk A20
  clear A20
  by_cases c3 : t140 = true
  · subst c3
    have H1 : ((link_Best.f k l0).bind fun bt141 => (if (l0.length : Int) = 0 then (ephemerislaw2_LinkOffsets.j0 k l0 bt141.2.2 6 0 0 bt141.1 bt141.2.1) else (ephemerislaw2_LinkOffsets.j0 k l0 bt141.2.2 0 0 0 bt141.1 bt141.2.1))) = some r := by rw [if_pos rfl] at H; exact H
    clear H
    have H := H1
    clear H1
    replace H := Option.bind_eq_some_iff.mp H
    obtain ⟨⟨t141, t142, t143⟩, A40, H⟩ := H
    replace H : (if (l0.length : Int) = 0 then (ephemerislaw2_LinkOffsets.j0 k l0 t143 6 0 0 t141 t142) else (ephemerislaw2_LinkOffsets.j0 k l0 t143 0 0 0 t141 t142)) = some r := H
    have A4 := Aside0.mk A40
    clear A40
    have HC5 := Aside0.mk H
    clear H
    go_enter Try.func4, Try.ntmps4
    go_upto_if 25 with (first | ((with_reducible refine gate_callee (f := 23) rfl ?_); refine goesL_ (some 16) rfl rfl Try.func23 (by kernel_rfl) rfl #[] rfl (by (try simp only [List.map_toArray, List.map_cons, List.map_nil]); first | done | rfl | (simp only [List.length_drop, List.length_take]; rfl)) ?_; (with_reducible refine (ephemerislaw2_linkWorks.calls k  true _ A2.out).mono ?_); rintro e w6 ⟨rfl, hb⟩; refine ⟨_, rfl, ?_⟩; have n0_ := Aside0.mk (below_step (by repeat (first | (with_reducible first | exact HB.out | apply below_alloc | apply pw_below_drewN | apply below_drew1) | exact HB.out)) hb); clear HB; have HB := n0_; clear n0_; (try clear hb); (try clear hb2); (try clear hk); (try clear hi)) | ((with_reducible refine gate_callee (f := 24) rfl ?_); refine goesL_ (some 20) rfl rfl Try.func24 (by kernel_rfl) rfl #[.slice A0 l0.length c0] rfl (by (try simp only [List.map_toArray, List.map_cons, List.map_nil]); first | done | rfl | (simp only [List.length_drop, List.length_take]; rfl)) ?_; (with_reducible refine (link_Best.calls k _ _ l0 t141 t142 t143 _ ?side1 ?side2 A4.out).mono ?_); (case side1 => repeat (first | exact (Kd.C_below HR0.out HB.out) | (with_reducible refine Kd.C_alloc ?_ _) | (with_reducible refine Kd.C_drewN ?_ _) | (with_reducible refine Kd.C_drew ?_))); (case side2 => exact HC0.out); rintro e w7 ⟨rfl, hb⟩; refine ⟨_, rfl, ?_⟩; have n0_ := Aside0.mk (below_step (by repeat (first | (with_reducible first | exact HB.out | apply below_alloc | apply pw_below_drewN | apply below_drew1) | exact HB.out)) hb); clear HB; have HB := n0_; clear n0_; (try clear hb); (try clear hb2); (try clear hk); (try clear hi)) | ((with_reducible refine gate_dst (N := 3) rfl ?_); refine box_event ?hg (N := 3) ?hd (cs := #[.int .i64 0, .int .i64 0]) (t := 36) ?hr ?_; (case hd => rfl); (case hg => rfl); (case hr => first | (go_simp; done) | (go_simp; rfl)); intro gb144 hg w8 hbox hb; have n0_ := Aside0.mk (below_step (by repeat (first | (with_reducible first | exact HB.out | apply below_alloc | apply pw_below_drewN | apply below_drew1) | exact HB.out)) hb); have n1_ := Aside0.mk (hbox); have n2_ := Aside0.mk ((by rw [hg]; exact (below_size (by repeat (first | (with_reducible first | exact HB.out | apply below_alloc | apply pw_below_drewN | apply below_drew1) | exact HB.out))) : w.heap.size ≤ gb144)); have n3_ := Aside0.mk ((by rw [hg]; exact (below_size (by repeat (first | (with_reducible first | exact HB.out | apply below_alloc | apply pw_below_drewN | apply below_drew1) | exact HB.out))) : w.heap.size ≤ gb144)); clear HB; have HB := n0_; have BK144 := n1_; have GW144 := n2_; have GE144 := n3_; clear n0_ n1_ n2_ n3_; clear hb hbox hg; have hcz9_0 : w8.cell? ⟨gb144, 0, none⟩ = some (.int .i64 0) := (blk_cell BK144.out 0).trans rfl; have hcz9_1 : w8.cell? ⟨gb144, 1, none⟩ = some (.int .i64 0) := (blk_cell BK144.out 1).trans rfl; have hfz9_0 := blk_frozen BK144.out 0; have hfz9_1 := blk_frozen BK144.out 1))
    (try simp only [Act.put, List.setIfInBounds_toArray, List.set_cons_zero, List.set_cons_succ])
    go_cut [5] (fun v5 wc => ∃ (kq : Nat) (x5_4 : Int), v5 = .int .i64 x5_4 ∧ Aside0 (ephemerislaw2_LinkOffsets.j0 kq l0 t143 x5_4 0 0 t141 t142 = some r) ∧ Aside0 (kq ≤ k) ∧ Aside0 (wc.heap[gb144]? = some (.cells #[.int .i64 t141, .int .i64 t142] 36 (0, 0))) ∧ Aside0 (Below w.heap.size w wc))
    case first =>
      have H := HC5.out
      clear HC5
      by_cases c10 : (l0.length : Int) = 0
      · rw [if_pos c10] at H
        have c10b0 : ((l0.length : Int) == 0) = true := beq_iff_eq.mpr c10
        have c10b1 : ((l0.length : Int) != 0) = false := bne_eq_false_iff_eq.mpr c10
        clear c10
        (first | rw [c10b0] | (simp only [i64_w, i32_w]; rw [c10b0]) | skip)
        have H' := Aside0.mk H
        clear H
        go_wp2
        go_meet
        case rel => exact ⟨_, (6), (by first | rfl | (simp; done) | (simp [*]; done)), H', ⟨by first | omega | exact Nat.le_refl _⟩, ⟨by (with_reducible repeat (first | refine blk_drewN ?_ _ | refine blk_drew ?_ | refine blk_alloc ?_ _)); refine blk_put (cs := #[.int .i64 t141, .int .i64 0]) ?_ 1 _ rfl; (with_reducible repeat (first | refine blk_drewN ?_ _ | refine blk_drew ?_ | refine blk_alloc ?_ _)); refine blk_put (cs := #[.int .i64 0, .int .i64 0]) ?_ 0 _ rfl; (with_reducible repeat (first | refine blk_drewN ?_ _ | refine blk_drew ?_ | refine blk_alloc ?_ _)); exact BK144.out⟩, ⟨by repeat (first | (with_reducible first | exact HB.out | apply below_alloc | apply pw_below_drewN | apply below_drew1 | refine below_set ?_ GE144.out) | exact HB.out)⟩⟩
      · rw [if_neg c10] at H
        have c10b0 : ((l0.length : Int) == 0) = false := beq_eq_false_iff_ne.mpr c10
        have c10b1 : ((l0.length : Int) != 0) = true := bne_iff_ne.mpr c10
        have c10b2 : ¬ (l0 = []) := fun h_ => c10 (by rw [h_]; rfl)
        (first | rw [c10b0] | (simp only [i64_w, i32_w]; rw [c10b0]) | skip)
        have H' := Aside0.mk H
        clear H
        go_wp2
        go_meet
        case rel => exact ⟨_, (0), (by first | rfl | (simp; done) | (simp [*]; done)), H', ⟨by first | omega | exact Nat.le_refl _⟩, ⟨by (with_reducible repeat (first | refine blk_drewN ?_ _ | refine blk_drew ?_ | refine blk_alloc ?_ _)); refine blk_put (cs := #[.int .i64 t141, .int .i64 0]) ?_ 1 _ rfl; (with_reducible repeat (first | refine blk_drewN ?_ _ | refine blk_drew ?_ | refine blk_alloc ?_ _)); refine blk_put (cs := #[.int .i64 0, .int .i64 0]) ?_ 0 _ rfl; (with_reducible repeat (first | refine blk_drewN ?_ _ | refine blk_drew ?_ | refine blk_alloc ?_ _)); exact BK144.out⟩, ⟨by repeat (first | (with_reducible first | exact HB.out | apply below_alloc | apply pw_below_drewN | apply below_drew1 | refine below_set ?_ GE144.out) | exact HB.out)⟩⟩
    case rest =>
      clear HC5
      try clear c1
      try clear c2
      try clear p2
      try clear c3
      try clear c4
      try clear c10
      try clear c10b0
      try clear c10b1
      try clear c10b2
      try clear hcz9_0
      try clear hcz9_1
      try clear hfz9_0
      try clear hfz9_1
      obtain ⟨kq, x5_4, rfl, HA, HJ4, BK144, HB⟩ := hcut
      cases kq with
      | zero => exact absurd HA.out (by simp [ephemerislaw2_LinkOffsets.j0])
      | succ kj4 =>
        have H := HA.out
        clear HA
        simp only [ephemerislaw2_LinkOffsets.j0] at H
        have HC11 := Aside0.mk H
        clear H
        go_upto_if 28 with (fail)
        go_cut [5] (fun v5 wc => ∃ (kq : Nat) (x5_10 : Int), v5 = .int .i64 x5_10 ∧ Aside0 (ephemerislaw2_LinkOffsets.j1 kq l0 t143 x5_10 0 0 t141 t142 = some r) ∧ Aside0 (kq ≤ kj4) ∧ Aside0 (wc.heap[gb144]? = some (.cells #[.int .i64 t141, .int .i64 t142] 36 (0, 0))) ∧ Aside0 (Below w.heap.size w wc))
        case first =>
          have H := HC11.out
          clear HC11
          by_cases c12 : (l0.length : Int) > 40
          · rw [if_pos c12] at H
            have c12b0 : decide (40 < (l0.length : Int)) = true := decide_eq_true c12
            have c12b1 : decide (40 < l0.length) = true := decide_eq_true (by omega)
            clear c12
            (first | rw [c12b0] | (simp only [i64_w, i32_w]; rw [c12b0]) | skip)
            have H' := Aside0.mk H
            clear H
            go_wp2
            go_meet
            case rel => exact ⟨_, (2), (by first | rfl | (simp; done) | (simp [*]; done)), H', ⟨by have := HJ4.out; first | omega | exact Nat.le_refl _⟩, ⟨by (with_reducible repeat (first | refine blk_drewN ?_ _ | refine blk_drew ?_ | refine blk_alloc ?_ _)); exact BK144.out⟩, ⟨by repeat (first | (with_reducible first | exact HB.out | apply below_alloc | apply pw_below_drewN | apply below_drew1 | refine below_set ?_ GE144.out) | exact HB.out)⟩⟩
          · rw [if_neg c12] at H
            have c12b0 : decide (40 < (l0.length : Int)) = false := decide_eq_false c12
            have c12b1 : decide (40 < l0.length) = false := decide_eq_false (by omega)
            clear c12
            (first | rw [c12b0] | (simp only [i64_w, i32_w]; rw [c12b0]) | skip)
            have H' := Aside0.mk H
            clear H
            go_wp2
            go_meet
            case rel => exact ⟨_, (x5_4), (by first | rfl | (simp; done) | (simp [*]; done)), H', ⟨by have := HJ4.out; first | omega | exact Nat.le_refl _⟩, ⟨by (with_reducible repeat (first | refine blk_drewN ?_ _ | refine blk_drew ?_ | refine blk_alloc ?_ _)); exact BK144.out⟩, ⟨by repeat (first | (with_reducible first | exact HB.out | apply below_alloc | apply pw_below_drewN | apply below_drew1 | refine below_set ?_ GE144.out) | exact HB.out)⟩⟩
        case rest =>
          clear HC11
          try clear c1
          try clear c2
          try clear p2
          try clear c3
          try clear c4
          try clear c10
          try clear c10b0
          try clear c10b1
          try clear c10b2
          try clear c12
          try clear c12b0
          try clear c12b1
          try clear hcz9_0
          try clear hcz9_1
          try clear hfz9_0
          try clear hfz9_1
          try clear p2
          obtain ⟨kq, x5_10, rfl, HA, HJ10, BK144, HB⟩ := hcut
          cases kq with
          | zero => exact absurd HA.out (by simp [ephemerislaw2_LinkOffsets.j1])
          | succ kj10 =>
            have H := HA.out
            clear HA
            simp only [ephemerislaw2_LinkOffsets.j1] at H
            have H' := Aside0.mk H
            clear H
            go_wp2
            go_loopg [5, 6, 7, 31] kj10 (fun kq v5 v6 v7 v31 w' => ∃ (x5_3 : Int) (x6_3 : Int) (x7_3 : Int) (x31_3 : Int), v5 = .int .i64 x5_3 ∧ v6 = .int .i64 x6_3 ∧ v7 = .int .i64 x7_3 ∧ v31 = .int .i64 x31_3 ∧ Aside0 (ephemerislaw2_LinkOffsets.l0 kq t143 x5_3 x6_3 x7_3 l0 (l0.length : Int) x31_3 t141 t142 = some r) ∧ Aside0 (kq ≤ kj10) ∧ Aside0 (w'.heap[gb144]? = some (.cells #[.int .i64 t141, .int .i64 t142] 36 (0, 0))) ∧ Aside0 (Below w.heap.size w w'))
            case atStart => exact ⟨(x5_10), (0), (0), (0), (by first | rfl | (simp; done) | (simp [*]; done)), (by first | rfl | (simp; done) | (simp [*]; done)), (by first | rfl | (simp; done) | (simp [*]; done)), (by first | rfl | (simp; done) | (simp [*]; done)), H', ⟨Nat.le_refl _⟩, ⟨by (with_reducible repeat (first | refine blk_drewN ?_ _ | refine blk_drew ?_ | refine blk_alloc ?_ _)); exact BK144.out⟩, ⟨by repeat (first | (with_reducible first | exact HB.out | apply below_alloc | apply pw_below_drewN | apply below_drew1 | refine below_set ?_ GE144.out) | exact HB.out)⟩⟩
            case round =>
              clear H'
              try clear c1
              try clear c2
              try clear p2
              try clear c3
              try clear c4
              try clear c10
              try clear c10b0
              try clear c10b1
              try clear c10b2
              try clear c12
              try clear c12b0
              try clear c12b1
              try clear hcz9_0
              try clear hcz9_1
              try clear hfz9_0
              try clear hfz9_1
              try clear p2
              obtain ⟨x5_3, x6_3, x7_3, x31_3, rfl, rfl, rfl, rfl, HA, HK3, BK144, HB⟩ := hrel
              cases gk with
              | zero => exact absurd HA.out (by simp [ephemerislaw2_LinkOffsets.l0])
              | succ k3 =>
                have H := HA.out
                clear HA
                simp only [ephemerislaw2_LinkOffsets.l0] at H
                by_cases c13 : x31_3 < (l0.length : Int)
                · rw [if_pos c13] at H
                  have c13b0 : decide (x31_3 < (l0.length : Int)) = true := decide_eq_true c13
                  clear c13
                  by_cases c14 : 0 ≤ x31_3
                  · rw [if_pos c14] at H
                    have c14b0 : decide (0 ≤ x31_3) = true := decide_eq_true c14
                    clear c14
                    by_cases c15 : x31_3 < (l0.length : Int)
                    · rw [if_pos c15] at H
                      have c15b0 : decide (x31_3 < (l0.length : Int)) = true := decide_eq_true c15
                      clear c15
                      replace H := Option.bind_eq_some_iff.mp H
                      obtain ⟨⟨t147, t148, t149⟩, A160, H⟩ := H
                      replace H : ((link_Delay.f k3 ((rd_T40 l0 x31_3).f0) ((rd_T40 l0 x31_3).f1) ((rd_T40 l0 x31_3).f2.f0) ((rd_T40 l0 x31_3).f2.f1)).bind fun bt151 => ((ephemerislaw2_exchangeErr.f k3 ((rd_T40 l0 x31_3).f0) ((rd_T40 l0 x31_3).f1) ((rd_T40 l0 x31_3).f2.f0) ((rd_T40 l0 x31_3).f2.f1)).bind fun t153 => ((link_Check.f k3 ((rd_T40 l0 x31_3).f0) ((rd_T40 l0 x31_3).f1) ((rd_T40 l0 x31_3).f2.f0) ((rd_T40 l0 x31_3).f2.f1)).bind fun t154 => (if t154 = t153 then (if t153 = 0 then (ephemerislaw2_LinkOffsets.j3 k3 t143 x5_3 x6_3 x7_3 x31_3 t149 bt151.1 bt151.2 t153 l0 (l0.length : Int) x31_3 (decide ((wrap64 (((rd_T40 l0 x31_3).f2.f1) - ((rd_T40 l0 x31_3).f1))) > (wrap64 (((rd_T40 l0 x31_3).f2.f0) - ((rd_T40 l0 x31_3).f0))))) t141 t142 t147 t148 (wrap64 (((rd_T40 l0 x31_3).f2.f1) - ((rd_T40 l0 x31_3).f1))) (wrap64 (((rd_T40 l0 x31_3).f2.f0) - ((rd_T40 l0 x31_3).f0)))) else (ephemerislaw2_LinkOffsets.j3 k3 t143 x5_3 x6_3 x7_3 x31_3 t149 bt151.1 bt151.2 t153 l0 (l0.length : Int) x31_3 false t141 t142 t147 t148 (wrap64 (((rd_T40 l0 x31_3).f2.f1) - ((rd_T40 l0 x31_3).f1))) (wrap64 (((rd_T40 l0 x31_3).f2.f0) - ((rd_T40 l0 x31_3).f0))))) else (some false))))) = some r := H
                      have A16 := Aside0.mk A160
                      clear A160
                      replace H := Option.bind_eq_some_iff.mp H
                      obtain ⟨⟨t151, t152⟩, A170, H⟩ := H
                      replace H : ((ephemerislaw2_exchangeErr.f k3 ((rd_T40 l0 x31_3).f0) ((rd_T40 l0 x31_3).f1) ((rd_T40 l0 x31_3).f2.f0) ((rd_T40 l0 x31_3).f2.f1)).bind fun t153 => ((link_Check.f k3 ((rd_T40 l0 x31_3).f0) ((rd_T40 l0 x31_3).f1) ((rd_T40 l0 x31_3).f2.f0) ((rd_T40 l0 x31_3).f2.f1)).bind fun t154 => (if t154 = t153 then (if t153 = 0 then (ephemerislaw2_LinkOffsets.j3 k3 t143 x5_3 x6_3 x7_3 x31_3 t149 t151 t152 t153 l0 (l0.length : Int) x31_3 (decide ((wrap64 (((rd_T40 l0 x31_3).f2.f1) - ((rd_T40 l0 x31_3).f1))) > (wrap64 (((rd_T40 l0 x31_3).f2.f0) - ((rd_T40 l0 x31_3).f0))))) t141 t142 t147 t148 (wrap64 (((rd_T40 l0 x31_3).f2.f1) - ((rd_T40 l0 x31_3).f1))) (wrap64 (((rd_T40 l0 x31_3).f2.f0) - ((rd_T40 l0 x31_3).f0)))) else (ephemerislaw2_LinkOffsets.j3 k3 t143 x5_3 x6_3 x7_3 x31_3 t149 t151 t152 t153 l0 (l0.length : Int) x31_3 false t141 t142 t147 t148 (wrap64 (((rd_T40 l0 x31_3).f2.f1) - ((rd_T40 l0 x31_3).f1))) (wrap64 (((rd_T40 l0 x31_3).f2.f0) - ((rd_T40 l0 x31_3).f0))))) else (some false)))) = some r := H
                      have A17 := Aside0.mk A170
                      clear A170
                      replace H := Option.bind_eq_some_iff.mp H
                      obtain ⟨t153, A180, H⟩ := H
                      replace H : ((link_Check.f k3 ((rd_T40 l0 x31_3).f0) ((rd_T40 l0 x31_3).f1) ((rd_T40 l0 x31_3).f2.f0) ((rd_T40 l0 x31_3).f2.f1)).bind fun t154 => (if t154 = t153 then (if t153 = 0 then (ephemerislaw2_LinkOffsets.j3 k3 t143 x5_3 x6_3 x7_3 x31_3 t149 t151 t152 t153 l0 (l0.length : Int) x31_3 (decide ((wrap64 (((rd_T40 l0 x31_3).f2.f1) - ((rd_T40 l0 x31_3).f1))) > (wrap64 (((rd_T40 l0 x31_3).f2.f0) - ((rd_T40 l0 x31_3).f0))))) t141 t142 t147 t148 (wrap64 (((rd_T40 l0 x31_3).f2.f1) - ((rd_T40 l0 x31_3).f1))) (wrap64 (((rd_T40 l0 x31_3).f2.f0) - ((rd_T40 l0 x31_3).f0)))) else (ephemerislaw2_LinkOffsets.j3 k3 t143 x5_3 x6_3 x7_3 x31_3 t149 t151 t152 t153 l0 (l0.length : Int) x31_3 false t141 t142 t147 t148 (wrap64 (((rd_T40 l0 x31_3).f2.f1) - ((rd_T40 l0 x31_3).f1))) (wrap64 (((rd_T40 l0 x31_3).f2.f0) - ((rd_T40 l0 x31_3).f0))))) else (some false))) = some r := H
                      have A18 := Aside0.mk A180
                      clear A180
                      replace H := Option.bind_eq_some_iff.mp H
                      obtain ⟨t154, A190, H⟩ := H
                      replace H : (if t154 = t153 then (if t153 = 0 then (ephemerislaw2_LinkOffsets.j3 k3 t143 x5_3 x6_3 x7_3 x31_3 t149 t151 t152 t153 l0 (l0.length : Int) x31_3 (decide ((wrap64 (((rd_T40 l0 x31_3).f2.f1) - ((rd_T40 l0 x31_3).f1))) > (wrap64 (((rd_T40 l0 x31_3).f2.f0) - ((rd_T40 l0 x31_3).f0))))) t141 t142 t147 t148 (wrap64 (((rd_T40 l0 x31_3).f2.f1) - ((rd_T40 l0 x31_3).f1))) (wrap64 (((rd_T40 l0 x31_3).f2.f0) - ((rd_T40 l0 x31_3).f0)))) else (ephemerislaw2_LinkOffsets.j3 k3 t143 x5_3 x6_3 x7_3 x31_3 t149 t151 t152 t153 l0 (l0.length : Int) x31_3 false t141 t142 t147 t148 (wrap64 (((rd_T40 l0 x31_3).f2.f1) - ((rd_T40 l0 x31_3).f1))) (wrap64 (((rd_T40 l0 x31_3).f2.f0) - ((rd_T40 l0 x31_3).f0))))) else (some false)) = some r := H
                      have A19 := Aside0.mk A190
                      clear A190
                      by_cases c20 : t154 = t153
                      · rw [if_pos c20] at H
                        have c20b0 : (t154 == t153) = true := beq_iff_eq.mpr c20
                        have c20b1 : (t154 != t153) = false := bne_eq_false_iff_eq.mpr c20
                        clear c20
                        have HC21 := Aside0.mk H
                        clear H
                        have p145 : 0 ≤ (x31_3 : Int) := of_decide_eq_true (by first | (with_reducible assumption) | assumption)
                        have q145 : x31_3 < (l0.length : Int) := of_decide_eq_true (by first | (with_reducible assumption) | assumption)
                        obtain ⟨ad145, e145, hx145_0, hx145_1, hx145_2, hx145_3⟩ := at_T40 HR0.out x31_3 p145 q145
                        cases e145
                        replace hx145_0 := (HB.out.cell (World.block_lt_of_cell? w _ hx145_0)).trans hx145_0
                        replace hx145_1 := (HB.out.cell (World.block_lt_of_cell? w _ hx145_1)).trans hx145_1
                        replace hx145_2 := (HB.out.cell (World.block_lt_of_cell? w _ hx145_2)).trans hx145_2
                        replace hx145_3 := (HB.out.cell (World.block_lt_of_cell? w _ hx145_3)).trans hx145_3
                        replace p145 := eq_true p145
                        replace q145 := eq_true q145
                        go_upto_region 18 with (first | ((with_reducible refine gate_dst (N := 9) rfl ?_); refine box_event ?hg (N := 9) ?hd (cs := #[.int .i64 0, .int .i64 0, .int .i64 0, .int .i64 0]) (t := 40) ?hr ?_; (case hd => rfl); (case hg => rfl); (case hr => first | (go_simp; done) | (go_simp; rfl)); intro gb146 hg w22 hbox hb; have n0_ := Aside0.mk (blk_below (g := gb144) (o := .cells #[.int .i64 t141, .int .i64 t142] 36 (0, 0)) (by (with_reducible repeat (first | refine blk_drewN ?_ _ | refine blk_drew ?_ | refine blk_alloc ?_ _)); exact BK144.out) hb); have n1_ := Aside0.mk (below_step (by repeat (first | (with_reducible first | exact HB.out | apply below_alloc | apply pw_below_drewN | apply below_drew1 | refine below_set ?_ GE144.out) | exact HB.out)) hb); have n2_ := Aside0.mk (hbox); have n3_ := Aside0.mk ((by rw [hg]; exact (below_size (by repeat (first | (with_reducible first | exact HB.out | apply below_alloc | apply pw_below_drewN | apply below_drew1 | refine below_set ?_ GE144.out) | exact HB.out))) : w.heap.size ≤ gb146)); have n4_ := Aside0.mk ((by rw [hg]; exact (below_size (by repeat (first | (with_reducible first | exact HB.out | apply below_alloc | apply pw_below_drewN | apply below_drew1 | refine below_set ?_ GE144.out) | exact HB.out))) : w.heap.size ≤ gb146)); have n5_ := Aside0.mk ((by rw [hg]; exact Nat.ne_of_lt (blk_lt (g := gb144) (o := .cells #[.int .i64 t141, .int .i64 t142] 36 (0, 0)) (by (with_reducible repeat (first | refine blk_drewN ?_ _ | refine blk_drew ?_ | refine blk_alloc ?_ _)); exact BK144.out)) : gb144 ≠ gb146)); have n6_ := Aside0.mk ((by rw [hg]; exact Nat.ne_of_gt (blk_lt (g := gb144) (o := .cells #[.int .i64 t141, .int .i64 t142] 36 (0, 0)) (by (with_reducible repeat (first | refine blk_drewN ?_ _ | refine blk_drew ?_ | refine blk_alloc ?_ _)); exact BK144.out)) : gb146 ≠ gb144)); clear BK144; clear HB; have BK144 := n0_; have HB := n1_; have BK146 := n2_; have GW146 := n3_; have GE146 := n4_; have NB144_146 := n5_; have NB146_144 := n6_; clear n0_ n1_ n2_ n3_ n4_ n5_ n6_; clear hb hbox hg; have hnb23 := NB146_144.out; have hnc23 := NB144_146.out; have hcz24_0 : w22.cell? ⟨gb146, 0, none⟩ = some (.int .i64 0) := (blk_cell BK146.out 0).trans rfl; have hcz24_1 : w22.cell? ⟨gb146, 1, none⟩ = some (.int .i64 0) := (blk_cell BK146.out 1).trans rfl; have hcz24_2 : w22.cell? ⟨gb146, 2, none⟩ = some (.int .i64 0) := (blk_cell BK146.out 2).trans rfl; have hcz24_3 : w22.cell? ⟨gb146, 3, none⟩ = some (.int .i64 0) := (blk_cell BK146.out 3).trans rfl; have hfz24_0 := blk_frozen BK146.out 0; have hfz24_1 := blk_frozen BK146.out 1; have hfz24_2 := blk_frozen BK146.out 2; have hfz24_3 := blk_frozen BK146.out 3) | ((with_reducible refine gate_callee (f := 25) rfl ?_); refine goesL_ (some 38) rfl rfl Try.func25 (by kernel_rfl) rfl #[.agg #[.int .i64 ((rd_T40 l0 x31_3).f0), .int .i64 ((rd_T40 l0 x31_3).f1), .int .i64 ((rd_T40 l0 x31_3).f2.f0), .int .i64 ((rd_T40 l0 x31_3).f2.f1)]] rfl (by (try simp only [List.map_toArray, List.map_cons, List.map_nil]); first | done | rfl | (simp only [List.length_drop, List.length_take]; rfl)) ?_; (with_reducible refine (link_Offset.calls k3 ((rd_T40 l0 x31_3).f0) ((rd_T40 l0 x31_3).f1) ((rd_T40 l0 x31_3).f2.f0) ((rd_T40 l0 x31_3).f2.f1) t147 t148 t149 _ A16.out).mono ?_); rintro e w25 ⟨rfl, hb⟩; refine ⟨_, rfl, ?_⟩; have n0_ := Aside0.mk (blk_below (g := gb144) (o := .cells #[.int .i64 t141, .int .i64 t142] 36 (0, 0)) (by (with_reducible repeat (first | refine blk_drewN ?_ _ | refine blk_drew ?_ | refine blk_alloc ?_ _)); refine blk_far ?_ NB144_146.out _; (with_reducible repeat (first | refine blk_drewN ?_ _ | refine blk_drew ?_ | refine blk_alloc ?_ _)); refine blk_far ?_ NB144_146.out _; (with_reducible repeat (first | refine blk_drewN ?_ _ | refine blk_drew ?_ | refine blk_alloc ?_ _)); refine blk_far ?_ NB144_146.out _; (with_reducible repeat (first | refine blk_drewN ?_ _ | refine blk_drew ?_ | refine blk_alloc ?_ _)); refine blk_far ?_ NB144_146.out _; (with_reducible repeat (first | refine blk_drewN ?_ _ | refine blk_drew ?_ | refine blk_alloc ?_ _)); exact BK144.out) hb); have n1_ := Aside0.mk (blk_below (g := gb146) (o := .cells #[.int .i64 ((rd_T40 l0 x31_3).f0), .int .i64 ((rd_T40 l0 x31_3).f1), .int .i64 ((rd_T40 l0 x31_3).f2.f0), .int .i64 ((rd_T40 l0 x31_3).f2.f1)] 40 (0, 0)) (by (with_reducible repeat (first | refine blk_drewN ?_ _ | refine blk_drew ?_ | refine blk_alloc ?_ _)); refine blk_put (cs := #[.int .i64 ((rd_T40 l0 x31_3).f0), .int .i64 ((rd_T40 l0 x31_3).f1), .int .i64 ((rd_T40 l0 x31_3).f2.f0), .int .i64 0]) ?_ 3 _ rfl; (with_reducible repeat (first | refine blk_drewN ?_ _ | refine blk_drew ?_ | refine blk_alloc ?_ _)); refine blk_put (cs := #[.int .i64 ((rd_T40 l0 x31_3).f0), .int .i64 ((rd_T40 l0 x31_3).f1), .int .i64 0, .int .i64 0]) ?_ 2 _ rfl; (with_reducible repeat (first | refine blk_drewN ?_ _ | refine blk_drew ?_ | refine blk_alloc ?_ _)); refine blk_put (cs := #[.int .i64 ((rd_T40 l0 x31_3).f0), .int .i64 0, .int .i64 0, .int .i64 0]) ?_ 1 _ rfl; (with_reducible repeat (first | refine blk_drewN ?_ _ | refine blk_drew ?_ | refine blk_alloc ?_ _)); refine blk_put (cs := #[.int .i64 0, .int .i64 0, .int .i64 0, .int .i64 0]) ?_ 0 _ rfl; (with_reducible repeat (first | refine blk_drewN ?_ _ | refine blk_drew ?_ | refine blk_alloc ?_ _)); exact BK146.out) hb); have n2_ := Aside0.mk (below_step (by repeat (first | (with_reducible first | exact HB.out | apply below_alloc | apply pw_below_drewN | apply below_drew1 | refine below_set ?_ GE144.out | refine below_set ?_ GE146.out) | exact HB.out)) hb); clear BK144; clear BK146; clear HB; have BK144 := n0_; have BK146 := n1_; have HB := n2_; clear n0_ n1_ n2_; (try clear hb); (try clear hb2); (try clear hk); (try clear hi)) | ((with_reducible refine gate_dst (N := 10) rfl ?_); refine box_event ?hg (N := 10) ?hd (cs := #[.int .i64 0, .int .i64 0]) (t := 36) ?hr ?_; (case hd => rfl); (case hg => rfl); (case hr => first | (go_simp; done) | (go_simp; rfl)); intro gb150 hg w26 hbox hb; have n0_ := Aside0.mk (blk_below (g := gb144) (o := .cells #[.int .i64 t141, .int .i64 t142] 36 (0, 0)) (by (with_reducible repeat (first | refine blk_drewN ?_ _ | refine blk_drew ?_ | refine blk_alloc ?_ _)); exact BK144.out) hb); have n1_ := Aside0.mk (blk_below (g := gb146) (o := .cells #[.int .i64 ((rd_T40 l0 x31_3).f0), .int .i64 ((rd_T40 l0 x31_3).f1), .int .i64 ((rd_T40 l0 x31_3).f2.f0), .int .i64 ((rd_T40 l0 x31_3).f2.f1)] 40 (0, 0)) (by (with_reducible repeat (first | refine blk_drewN ?_ _ | refine blk_drew ?_ | refine blk_alloc ?_ _)); exact BK146.out) hb); have n2_ := Aside0.mk (below_step (by repeat (first | (with_reducible first | exact HB.out | apply below_alloc | apply pw_below_drewN | apply below_drew1 | refine below_set ?_ GE144.out | refine below_set ?_ GE146.out) | exact HB.out)) hb); have n3_ := Aside0.mk (hbox); have n4_ := Aside0.mk ((by rw [hg]; exact (below_size (by repeat (first | (with_reducible first | exact HB.out | apply below_alloc | apply pw_below_drewN | apply below_drew1 | refine below_set ?_ GE144.out | refine below_set ?_ GE146.out) | exact HB.out))) : w.heap.size ≤ gb150)); have n5_ := Aside0.mk ((by rw [hg]; exact (below_size (by repeat (first | (with_reducible first | exact HB.out | apply below_alloc | apply pw_below_drewN | apply below_drew1 | refine below_set ?_ GE144.out | refine below_set ?_ GE146.out) | exact HB.out))) : w.heap.size ≤ gb150)); have n6_ := Aside0.mk ((by rw [hg]; exact Nat.ne_of_lt (blk_lt (g := gb144) (o := .cells #[.int .i64 t141, .int .i64 t142] 36 (0, 0)) (by (with_reducible repeat (first | refine blk_drewN ?_ _ | refine blk_drew ?_ | refine blk_alloc ?_ _)); exact BK144.out)) : gb144 ≠ gb150)); have n7_ := Aside0.mk ((by rw [hg]; exact Nat.ne_of_gt (blk_lt (g := gb144) (o := .cells #[.int .i64 t141, .int .i64 t142] 36 (0, 0)) (by (with_reducible repeat (first | refine blk_drewN ?_ _ | refine blk_drew ?_ | refine blk_alloc ?_ _)); exact BK144.out)) : gb150 ≠ gb144)); have n8_ := Aside0.mk ((by rw [hg]; exact Nat.ne_of_lt (blk_lt (g := gb146) (o := .cells #[.int .i64 ((rd_T40 l0 x31_3).f0), .int .i64 ((rd_T40 l0 x31_3).f1), .int .i64 ((rd_T40 l0 x31_3).f2.f0), .int .i64 ((rd_T40 l0 x31_3).f2.f1)] 40 (0, 0)) (by (with_reducible repeat (first | refine blk_drewN ?_ _ | refine blk_drew ?_ | refine blk_alloc ?_ _)); exact BK146.out)) : gb146 ≠ gb150)); have n9_ := Aside0.mk ((by rw [hg]; exact Nat.ne_of_gt (blk_lt (g := gb146) (o := .cells #[.int .i64 ((rd_T40 l0 x31_3).f0), .int .i64 ((rd_T40 l0 x31_3).f1), .int .i64 ((rd_T40 l0 x31_3).f2.f0), .int .i64 ((rd_T40 l0 x31_3).f2.f1)] 40 (0, 0)) (by (with_reducible repeat (first | refine blk_drewN ?_ _ | refine blk_drew ?_ | refine blk_alloc ?_ _)); exact BK146.out)) : gb150 ≠ gb146)); clear BK144; clear BK146; clear HB; have BK144 := n0_; have BK146 := n1_; have HB := n2_; have BK150 := n3_; have GW150 := n4_; have GE150 := n5_; have NB144_150 := n6_; have NB150_144 := n7_; have NB146_150 := n8_; have NB150_146 := n9_; clear n0_ n1_ n2_ n3_ n4_ n5_ n6_ n7_ n8_ n9_; clear hb hbox hg; have hnb27 := NB150_144.out; have hnc27 := NB144_150.out; have hnb28 := NB150_146.out; have hnc28 := NB146_150.out; have hcz29_0 : w26.cell? ⟨gb150, 0, none⟩ = some (.int .i64 0) := (blk_cell BK150.out 0).trans rfl; have hcz29_1 : w26.cell? ⟨gb150, 1, none⟩ = some (.int .i64 0) := (blk_cell BK150.out 1).trans rfl; have hfz29_0 := blk_frozen BK150.out 0; have hfz29_1 := blk_frozen BK150.out 1; have hcz30_0 : w26.cell? ⟨gb146, 0, none⟩ = some (.int .i64 ((rd_T40 l0 x31_3).f0)) := (blk_cell BK146.out 0).trans rfl; have hcz30_1 : w26.cell? ⟨gb146, 1, none⟩ = some (.int .i64 ((rd_T40 l0 x31_3).f1)) := (blk_cell BK146.out 1).trans rfl; have hcz30_2 : w26.cell? ⟨gb146, 2, none⟩ = some (.int .i64 ((rd_T40 l0 x31_3).f2.f0)) := (blk_cell BK146.out 2).trans rfl; have hcz30_3 : w26.cell? ⟨gb146, 3, none⟩ = some (.int .i64 ((rd_T40 l0 x31_3).f2.f1)) := (blk_cell BK146.out 3).trans rfl; have hfz30_0 := blk_frozen BK146.out 0; have hfz30_1 := blk_frozen BK146.out 1; have hfz30_2 := blk_frozen BK146.out 2; have hfz30_3 := blk_frozen BK146.out 3) | ((with_reducible refine gate_callee (f := 26) rfl ?_); refine goesL_ (some 43) rfl rfl Try.func26 (by kernel_rfl) rfl #[.agg #[.int .i64 ((rd_T40 l0 x31_3).f0), .int .i64 ((rd_T40 l0 x31_3).f1), .int .i64 ((rd_T40 l0 x31_3).f2.f0), .int .i64 ((rd_T40 l0 x31_3).f2.f1)]] rfl (by (try simp only [List.map_toArray, List.map_cons, List.map_nil]); first | done | rfl | (simp only [List.length_drop, List.length_take]; rfl)) ?_; (with_reducible refine (link_Delay.calls k3 ((rd_T40 l0 x31_3).f0) ((rd_T40 l0 x31_3).f1) ((rd_T40 l0 x31_3).f2.f0) ((rd_T40 l0 x31_3).f2.f1) t151 t152 _ A17.out).mono ?_); rintro e w31 ⟨rfl, hb⟩; refine ⟨_, rfl, ?_⟩; have n0_ := Aside0.mk (blk_below (g := gb144) (o := .cells #[.int .i64 t141, .int .i64 t142] 36 (0, 0)) (by (with_reducible repeat (first | refine blk_drewN ?_ _ | refine blk_drew ?_ | refine blk_alloc ?_ _)); refine blk_far ?_ NB144_150.out _; (with_reducible repeat (first | refine blk_drewN ?_ _ | refine blk_drew ?_ | refine blk_alloc ?_ _)); refine blk_far ?_ NB144_150.out _; (with_reducible repeat (first | refine blk_drewN ?_ _ | refine blk_drew ?_ | refine blk_alloc ?_ _)); exact BK144.out) hb); have n1_ := Aside0.mk (blk_below (g := gb146) (o := .cells #[.int .i64 ((rd_T40 l0 x31_3).f0), .int .i64 ((rd_T40 l0 x31_3).f1), .int .i64 ((rd_T40 l0 x31_3).f2.f0), .int .i64 ((rd_T40 l0 x31_3).f2.f1)] 40 (0, 0)) (by (with_reducible repeat (first | refine blk_drewN ?_ _ | refine blk_drew ?_ | refine blk_alloc ?_ _)); refine blk_far ?_ NB146_150.out _; (with_reducible repeat (first | refine blk_drewN ?_ _ | refine blk_drew ?_ | refine blk_alloc ?_ _)); refine blk_far ?_ NB146_150.out _; (with_reducible repeat (first | refine blk_drewN ?_ _ | refine blk_drew ?_ | refine blk_alloc ?_ _)); exact BK146.out) hb); have n2_ := Aside0.mk (blk_below (g := gb150) (o := .cells #[.int .i64 t147, .int .i64 t148] 36 (0, 0)) (by (with_reducible repeat (first | refine blk_drewN ?_ _ | refine blk_drew ?_ | refine blk_alloc ?_ _)); refine blk_put (cs := #[.int .i64 t147, .int .i64 0]) ?_ 1 _ rfl; (with_reducible repeat (first | refine blk_drewN ?_ _ | refine blk_drew ?_ | refine blk_alloc ?_ _)); refine blk_put (cs := #[.int .i64 0, .int .i64 0]) ?_ 0 _ rfl; (with_reducible repeat (first | refine blk_drewN ?_ _ | refine blk_drew ?_ | refine blk_alloc ?_ _)); exact BK150.out) hb); have n3_ := Aside0.mk (below_step (by repeat (first | (with_reducible first | exact HB.out | apply below_alloc | apply pw_below_drewN | apply below_drew1 | refine below_set ?_ GE144.out | refine below_set ?_ GE146.out | refine below_set ?_ GE150.out) | exact HB.out)) hb); clear BK144; clear BK146; clear BK150; clear HB; have BK144 := n0_; have BK146 := n1_; have BK150 := n2_; have HB := n3_; clear n0_ n1_ n2_ n3_; (try clear hb); (try clear hb2); (try clear hk); (try clear hi); have hcz32_0 : w31.cell? ⟨gb146, 0, none⟩ = some (.int .i64 ((rd_T40 l0 x31_3).f0)) := (blk_cell BK146.out 0).trans rfl; have hcz32_1 : w31.cell? ⟨gb146, 1, none⟩ = some (.int .i64 ((rd_T40 l0 x31_3).f1)) := (blk_cell BK146.out 1).trans rfl; have hcz32_2 : w31.cell? ⟨gb146, 2, none⟩ = some (.int .i64 ((rd_T40 l0 x31_3).f2.f0)) := (blk_cell BK146.out 2).trans rfl; have hcz32_3 : w31.cell? ⟨gb146, 3, none⟩ = some (.int .i64 ((rd_T40 l0 x31_3).f2.f1)) := (blk_cell BK146.out 3).trans rfl; have hfz32_0 := blk_frozen BK146.out 0; have hfz32_1 := blk_frozen BK146.out 1; have hfz32_2 := blk_frozen BK146.out 2; have hfz32_3 := blk_frozen BK146.out 3) | ((with_reducible refine gate_callee (f := 27) rfl ?_); refine goesL_ (some 47) rfl rfl Try.func27 (by kernel_rfl) rfl #[.agg #[.int .i64 ((rd_T40 l0 x31_3).f0), .int .i64 ((rd_T40 l0 x31_3).f1), .int .i64 ((rd_T40 l0 x31_3).f2.f0), .int .i64 ((rd_T40 l0 x31_3).f2.f1)]] rfl (by (try simp only [List.map_toArray, List.map_cons, List.map_nil]); first | done | rfl | (simp only [List.length_drop, List.length_take]; rfl)) ?_; (with_reducible refine (ephemerislaw2_exchangeErr.calls k3 ((rd_T40 l0 x31_3).f0) ((rd_T40 l0 x31_3).f1) ((rd_T40 l0 x31_3).f2.f0) ((rd_T40 l0 x31_3).f2.f1) t153 _ A18.out).mono ?_); rintro e w33 ⟨rfl, hb⟩; refine ⟨_, rfl, ?_⟩; have n0_ := Aside0.mk (blk_below (g := gb144) (o := .cells #[.int .i64 t141, .int .i64 t142] 36 (0, 0)) (by (with_reducible repeat (first | refine blk_drewN ?_ _ | refine blk_drew ?_ | refine blk_alloc ?_ _)); exact BK144.out) hb); have n1_ := Aside0.mk (blk_below (g := gb146) (o := .cells #[.int .i64 ((rd_T40 l0 x31_3).f0), .int .i64 ((rd_T40 l0 x31_3).f1), .int .i64 ((rd_T40 l0 x31_3).f2.f0), .int .i64 ((rd_T40 l0 x31_3).f2.f1)] 40 (0, 0)) (by (with_reducible repeat (first | refine blk_drewN ?_ _ | refine blk_drew ?_ | refine blk_alloc ?_ _)); exact BK146.out) hb); have n2_ := Aside0.mk (blk_below (g := gb150) (o := .cells #[.int .i64 t147, .int .i64 t148] 36 (0, 0)) (by (with_reducible repeat (first | refine blk_drewN ?_ _ | refine blk_drew ?_ | refine blk_alloc ?_ _)); exact BK150.out) hb); have n3_ := Aside0.mk (below_step (by repeat (first | (with_reducible first | exact HB.out | apply below_alloc | apply pw_below_drewN | apply below_drew1 | refine below_set ?_ GE144.out | refine below_set ?_ GE146.out | refine below_set ?_ GE150.out) | exact HB.out)) hb); clear BK144; clear BK146; clear BK150; clear HB; have BK144 := n0_; have BK146 := n1_; have BK150 := n2_; have HB := n3_; clear n0_ n1_ n2_ n3_; (try clear hb); (try clear hb2); (try clear hk); (try clear hi); have hcz34_0 : w33.cell? ⟨gb146, 0, none⟩ = some (.int .i64 ((rd_T40 l0 x31_3).f0)) := (blk_cell BK146.out 0).trans rfl; have hcz34_1 : w33.cell? ⟨gb146, 1, none⟩ = some (.int .i64 ((rd_T40 l0 x31_3).f1)) := (blk_cell BK146.out 1).trans rfl; have hcz34_2 : w33.cell? ⟨gb146, 2, none⟩ = some (.int .i64 ((rd_T40 l0 x31_3).f2.f0)) := (blk_cell BK146.out 2).trans rfl; have hcz34_3 : w33.cell? ⟨gb146, 3, none⟩ = some (.int .i64 ((rd_T40 l0 x31_3).f2.f1)) := (blk_cell BK146.out 3).trans rfl; have hfz34_0 := blk_frozen BK146.out 0; have hfz34_1 := blk_frozen BK146.out 1; have hfz34_2 := blk_frozen BK146.out 2; have hfz34_3 := blk_frozen BK146.out 3) | ((with_reducible refine gate_callee (f := 28) rfl ?_); refine goesL_ (some 49) rfl rfl Try.func28 (by kernel_rfl) rfl #[.agg #[.int .i64 ((rd_T40 l0 x31_3).f0), .int .i64 ((rd_T40 l0 x31_3).f1), .int .i64 ((rd_T40 l0 x31_3).f2.f0), .int .i64 ((rd_T40 l0 x31_3).f2.f1)]] rfl (by (try simp only [List.map_toArray, List.map_cons, List.map_nil]); first | done | rfl | (simp only [List.length_drop, List.length_take]; rfl)) ?_; (with_reducible refine (link_Check.calls k3 ((rd_T40 l0 x31_3).f0) ((rd_T40 l0 x31_3).f1) ((rd_T40 l0 x31_3).f2.f0) ((rd_T40 l0 x31_3).f2.f1) t154 _ A19.out).mono ?_); rintro e w35 ⟨rfl, hb⟩; refine ⟨_, rfl, ?_⟩; have n0_ := Aside0.mk (blk_below (g := gb144) (o := .cells #[.int .i64 t141, .int .i64 t142] 36 (0, 0)) (by (with_reducible repeat (first | refine blk_drewN ?_ _ | refine blk_drew ?_ | refine blk_alloc ?_ _)); exact BK144.out) hb); have n1_ := Aside0.mk (blk_below (g := gb146) (o := .cells #[.int .i64 ((rd_T40 l0 x31_3).f0), .int .i64 ((rd_T40 l0 x31_3).f1), .int .i64 ((rd_T40 l0 x31_3).f2.f0), .int .i64 ((rd_T40 l0 x31_3).f2.f1)] 40 (0, 0)) (by (with_reducible repeat (first | refine blk_drewN ?_ _ | refine blk_drew ?_ | refine blk_alloc ?_ _)); exact BK146.out) hb); have n2_ := Aside0.mk (blk_below (g := gb150) (o := .cells #[.int .i64 t147, .int .i64 t148] 36 (0, 0)) (by (with_reducible repeat (first | refine blk_drewN ?_ _ | refine blk_drew ?_ | refine blk_alloc ?_ _)); exact BK150.out) hb); have n3_ := Aside0.mk (below_step (by repeat (first | (with_reducible first | exact HB.out | apply below_alloc | apply pw_below_drewN | apply below_drew1 | refine below_set ?_ GE144.out | refine below_set ?_ GE146.out | refine below_set ?_ GE150.out) | exact HB.out)) hb); clear BK144; clear BK146; clear BK150; clear HB; have BK144 := n0_; have BK146 := n1_; have BK150 := n2_; have HB := n3_; clear n0_ n1_ n2_ n3_; (try clear hb); (try clear hb2); (try clear hk); (try clear hi); have hcz36_0 : w35.cell? ⟨gb146, 0, none⟩ = some (.int .i64 ((rd_T40 l0 x31_3).f0)) := (blk_cell BK146.out 0).trans rfl; have hcz36_1 : w35.cell? ⟨gb146, 1, none⟩ = some (.int .i64 ((rd_T40 l0 x31_3).f1)) := (blk_cell BK146.out 1).trans rfl; have hcz36_2 : w35.cell? ⟨gb146, 2, none⟩ = some (.int .i64 ((rd_T40 l0 x31_3).f2.f0)) := (blk_cell BK146.out 2).trans rfl; have hcz36_3 : w35.cell? ⟨gb146, 3, none⟩ = some (.int .i64 ((rd_T40 l0 x31_3).f2.f1)) := (blk_cell BK146.out 3).trans rfl; have hfz36_0 := blk_frozen BK146.out 0; have hfz36_1 := blk_frozen BK146.out 1; have hfz36_2 := blk_frozen BK146.out 2; have hfz36_3 := blk_frozen BK146.out 3) | ((with_reducible refine gate_dst (N := 15) rfl ?_); refine box_event ?hg (N := 15) ?hd (cs := #[.int .i64 0, .int .i64 0]) (t := 36) ?hr ?_; (case hd => rfl); (case hg => rfl); (case hr => first | (go_simp; done) | (go_simp; rfl)); intro gb155 hg w37 hbox hb; have n0_ := Aside0.mk (blk_below (g := gb144) (o := .cells #[.int .i64 t141, .int .i64 t142] 36 (0, 0)) (by (with_reducible repeat (first | refine blk_drewN ?_ _ | refine blk_drew ?_ | refine blk_alloc ?_ _)); exact BK144.out) hb); have n1_ := Aside0.mk (blk_below (g := gb146) (o := .cells #[.int .i64 ((rd_T40 l0 x31_3).f0), .int .i64 ((rd_T40 l0 x31_3).f1), .int .i64 ((rd_T40 l0 x31_3).f2.f0), .int .i64 ((rd_T40 l0 x31_3).f2.f1)] 40 (0, 0)) (by (with_reducible repeat (first | refine blk_drewN ?_ _ | refine blk_drew ?_ | refine blk_alloc ?_ _)); exact BK146.out) hb); have n2_ := Aside0.mk (blk_below (g := gb150) (o := .cells #[.int .i64 t147, .int .i64 t148] 36 (0, 0)) (by (with_reducible repeat (first | refine blk_drewN ?_ _ | refine blk_drew ?_ | refine blk_alloc ?_ _)); exact BK150.out) hb); have n3_ := Aside0.mk (below_step (by repeat (first | (with_reducible first | exact HB.out | apply below_alloc | apply pw_below_drewN | apply below_drew1 | refine below_set ?_ GE144.out | refine below_set ?_ GE146.out | refine below_set ?_ GE150.out) | exact HB.out)) hb); have n4_ := Aside0.mk (hbox); have n5_ := Aside0.mk ((by rw [hg]; exact (below_size (by repeat (first | (with_reducible first | exact HB.out | apply below_alloc | apply pw_below_drewN | apply below_drew1 | refine below_set ?_ GE144.out | refine below_set ?_ GE146.out | refine below_set ?_ GE150.out) | exact HB.out))) : w.heap.size ≤ gb155)); have n6_ := Aside0.mk ((by rw [hg]; exact (below_size (by repeat (first | (with_reducible first | exact HB.out | apply below_alloc | apply pw_below_drewN | apply below_drew1 | refine below_set ?_ GE144.out | refine below_set ?_ GE146.out | refine below_set ?_ GE150.out) | exact HB.out))) : w.heap.size ≤ gb155)); have n7_ := Aside0.mk ((by rw [hg]; exact Nat.ne_of_lt (blk_lt (g := gb144) (o := .cells #[.int .i64 t141, .int .i64 t142] 36 (0, 0)) (by (with_reducible repeat (first | refine blk_drewN ?_ _ | refine blk_drew ?_ | refine blk_alloc ?_ _)); exact BK144.out)) : gb144 ≠ gb155)); have n8_ := Aside0.mk ((by rw [hg]; exact Nat.ne_of_gt (blk_lt (g := gb144) (o := .cells #[.int .i64 t141, .int .i64 t142] 36 (0, 0)) (by (with_reducible repeat (first | refine blk_drewN ?_ _ | refine blk_drew ?_ | refine blk_alloc ?_ _)); exact BK144.out)) : gb155 ≠ gb144)); have n9_ := Aside0.mk ((by rw [hg]; exact Nat.ne_of_lt (blk_lt (g := gb146) (o := .cells #[.int .i64 ((rd_T40 l0 x31_3).f0), .int .i64 ((rd_T40 l0 x31_3).f1), .int .i64 ((rd_T40 l0 x31_3).f2.f0), .int .i64 ((rd_T40 l0 x31_3).f2.f1)] 40 (0, 0)) (by (with_reducible repeat (first | refine blk_drewN ?_ _ | refine blk_drew ?_ | refine blk_alloc ?_ _)); exact BK146.out)) : gb146 ≠ gb155)); have n10_ := Aside0.mk ((by rw [hg]; exact Nat.ne_of_gt (blk_lt (g := gb146) (o := .cells #[.int .i64 ((rd_T40 l0 x31_3).f0), .int .i64 ((rd_T40 l0 x31_3).f1), .int .i64 ((rd_T40 l0 x31_3).f2.f0), .int .i64 ((rd_T40 l0 x31_3).f2.f1)] 40 (0, 0)) (by (with_reducible repeat (first | refine blk_drewN ?_ _ | refine blk_drew ?_ | refine blk_alloc ?_ _)); exact BK146.out)) : gb155 ≠ gb146)); have n11_ := Aside0.mk ((by rw [hg]; exact Nat.ne_of_lt (blk_lt (g := gb150) (o := .cells #[.int .i64 t147, .int .i64 t148] 36 (0, 0)) (by (with_reducible repeat (first | refine blk_drewN ?_ _ | refine blk_drew ?_ | refine blk_alloc ?_ _)); exact BK150.out)) : gb150 ≠ gb155)); have n12_ := Aside0.mk ((by rw [hg]; exact Nat.ne_of_gt (blk_lt (g := gb150) (o := .cells #[.int .i64 t147, .int .i64 t148] 36 (0, 0)) (by (with_reducible repeat (first | refine blk_drewN ?_ _ | refine blk_drew ?_ | refine blk_alloc ?_ _)); exact BK150.out)) : gb155 ≠ gb150)); clear BK144; clear BK146; clear BK150; clear HB; have BK144 := n0_; have BK146 := n1_; have BK150 := n2_; have HB := n3_; have BK155 := n4_; have GW155 := n5_; have GE155 := n6_; have NB144_155 := n7_; have NB155_144 := n8_; have NB146_155 := n9_; have NB155_146 := n10_; have NB150_155 := n11_; have NB155_150 := n12_; clear n0_ n1_ n2_ n3_ n4_ n5_ n6_ n7_ n8_ n9_ n10_ n11_ n12_; clear hb hbox hg; have hnb38 := NB155_144.out; have hnc38 := NB144_155.out; have hnb39 := NB155_146.out; have hnc39 := NB146_155.out; have hnb40 := NB155_150.out; have hnc40 := NB150_155.out; have hcz41_0 : w37.cell? ⟨gb155, 0, none⟩ = some (.int .i64 0) := (blk_cell BK155.out 0).trans rfl; have hcz41_1 : w37.cell? ⟨gb155, 1, none⟩ = some (.int .i64 0) := (blk_cell BK155.out 1).trans rfl; have hfz41_0 := blk_frozen BK155.out 0; have hfz41_1 := blk_frozen BK155.out 1))
                        (try simp only [Act.put, List.setIfInBounds_toArray, List.set_cons_zero, List.set_cons_succ])
                        go_cut [73] (fun v73 wc => ∃ (kq : Nat) (x73_20 : Bool), v73 = .bool x73_20 ∧ Aside0 (ephemerislaw2_LinkOffsets.j3 kq t143 x5_3 x6_3 x7_3 x31_3 t149 t151 t152 t153 l0 (l0.length : Int) x31_3 x73_20 t141 t142 t147 t148 (wrap64 (((rd_T40 l0 x31_3).f2.f1) - ((rd_T40 l0 x31_3).f1))) (wrap64 (((rd_T40 l0 x31_3).f2.f0) - ((rd_T40 l0 x31_3).f0))) = some r) ∧ Aside0 (kq ≤ k3) ∧ Aside0 (wc.heap[gb144]? = some (.cells #[.int .i64 t141, .int .i64 t142] 36 (0, 0))) ∧ Aside0 (wc.heap[gb146]? = some (.cells #[.int .i64 ((rd_T40 l0 x31_3).f0), .int .i64 ((rd_T40 l0 x31_3).f1), .int .i64 ((rd_T40 l0 x31_3).f2.f0), .int .i64 ((rd_T40 l0 x31_3).f2.f1)] 40 (0, 0))) ∧ Aside0 (wc.heap[gb150]? = some (.cells #[.int .i64 t147, .int .i64 t148] 36 (0, 0))) ∧ Aside0 (wc.heap[gb155]? = some (.cells #[.int .i64 (wrap64 (((rd_T40 l0 x31_3).f2.f1) - ((rd_T40 l0 x31_3).f1))), .int .i64 (wrap64 (((rd_T40 l0 x31_3).f2.f0) - ((rd_T40 l0 x31_3).f0)))] 36 (0, 0))) ∧ Aside0 (Below w.heap.size w wc))
                        case first =>
                          have H := HC21.out
                          clear HC21
                          by_cases c42 : t153 = 0
                          · rw [if_pos c42] at H
                            have c42b0 : (t153 == 0) = true := beq_iff_eq.mpr c42
                            have c42b1 : (t153 != 0) = false := bne_eq_false_iff_eq.mpr c42
                            clear c42
                            (first | rw [c42b0] | (simp only [i64_w, i32_w]; rw [c42b0]) | skip)
                            have H' := Aside0.mk H
                            clear H
                            have hnb43 := NB155_144.out
                            have hnc43 := NB144_155.out
                            have hnb44 := NB155_146.out
                            have hnc44 := NB146_155.out
                            have hnb45 := NB155_150.out
                            have hnc45 := NB150_155.out
                            have hcz46_0 : w37.cell? ⟨gb155, 0, none⟩ = some (.int .i64 0) := (blk_cell BK155.out 0).trans rfl
                            have hcz46_1 : w37.cell? ⟨gb155, 1, none⟩ = some (.int .i64 0) := (blk_cell BK155.out 1).trans rfl
                            have hfz46_0 := blk_frozen BK155.out 0
                            have hfz46_1 := blk_frozen BK155.out 1
                            go_wp2
                            go_meet
                            case rel => exact ⟨_, (decide ((wrap64 (((rd_T40 l0 x31_3).f2.f1) - ((rd_T40 l0 x31_3).f1))) > (wrap64 (((rd_T40 l0 x31_3).f2.f0) - ((rd_T40 l0 x31_3).f0))))), (by first | rfl | (simp; done) | (simp [*]; done)), H', ⟨by have := HJ4.out; have := HJ10.out; have := HK3.out; first | omega | exact Nat.le_refl _⟩, ⟨by (with_reducible repeat (first | refine blk_drewN ?_ _ | refine blk_drew ?_ | refine blk_alloc ?_ _)); refine blk_far ?_ NB144_155.out _; (with_reducible repeat (first | refine blk_drewN ?_ _ | refine blk_drew ?_ | refine blk_alloc ?_ _)); refine blk_far ?_ NB144_155.out _; (with_reducible repeat (first | refine blk_drewN ?_ _ | refine blk_drew ?_ | refine blk_alloc ?_ _)); exact BK144.out⟩, ⟨by (with_reducible repeat (first | refine blk_drewN ?_ _ | refine blk_drew ?_ | refine blk_alloc ?_ _)); refine blk_far ?_ NB146_155.out _; (with_reducible repeat (first | refine blk_drewN ?_ _ | refine blk_drew ?_ | refine blk_alloc ?_ _)); refine blk_far ?_ NB146_155.out _; (with_reducible repeat (first | refine blk_drewN ?_ _ | refine blk_drew ?_ | refine blk_alloc ?_ _)); exact BK146.out⟩, ⟨by (with_reducible repeat (first | refine blk_drewN ?_ _ | refine blk_drew ?_ | refine blk_alloc ?_ _)); refine blk_far ?_ NB150_155.out _; (with_reducible repeat (first | refine blk_drewN ?_ _ | refine blk_drew ?_ | refine blk_alloc ?_ _)); refine blk_far ?_ NB150_155.out _; (with_reducible repeat (first | refine blk_drewN ?_ _ | refine blk_drew ?_ | refine blk_alloc ?_ _)); exact BK150.out⟩, ⟨by (with_reducible repeat (first | refine blk_drewN ?_ _ | refine blk_drew ?_ | refine blk_alloc ?_ _)); refine blk_put (cs := #[.int .i64 (wrap64 (((rd_T40 l0 x31_3).f2.f1) - ((rd_T40 l0 x31_3).f1))), .int .i64 0]) ?_ 1 _ rfl; (with_reducible repeat (first | refine blk_drewN ?_ _ | refine blk_drew ?_ | refine blk_alloc ?_ _)); refine blk_put (cs := #[.int .i64 0, .int .i64 0]) ?_ 0 _ rfl; (with_reducible repeat (first | refine blk_drewN ?_ _ | refine blk_drew ?_ | refine blk_alloc ?_ _)); exact BK155.out⟩, ⟨by repeat (first | (with_reducible first | exact HB.out | apply below_alloc | apply pw_below_drewN | apply below_drew1 | refine below_set ?_ GE144.out | refine below_set ?_ GE146.out | refine below_set ?_ GE150.out | refine below_set ?_ GE155.out) | exact HB.out)⟩⟩
                          · rw [if_neg c42] at H
                            have c42b0 : (t153 == 0) = false := beq_eq_false_iff_ne.mpr c42
                            have c42b1 : (t153 != 0) = true := bne_iff_ne.mpr c42
                            (first | rw [c42b0] | (simp only [i64_w, i32_w]; rw [c42b0]) | skip)
                            have H' := Aside0.mk H
                            clear H
                            go_wp2
                            go_meet
                            case rel => exact ⟨_, (false), (by first | rfl | (simp; done) | (simp [*]; done)), H', ⟨by have := HJ4.out; have := HJ10.out; have := HK3.out; first | omega | exact Nat.le_refl _⟩, ⟨by (with_reducible repeat (first | refine blk_drewN ?_ _ | refine blk_drew ?_ | refine blk_alloc ?_ _)); refine blk_far ?_ NB144_155.out _; (with_reducible repeat (first | refine blk_drewN ?_ _ | refine blk_drew ?_ | refine blk_alloc ?_ _)); refine blk_far ?_ NB144_155.out _; (with_reducible repeat (first | refine blk_drewN ?_ _ | refine blk_drew ?_ | refine blk_alloc ?_ _)); exact BK144.out⟩, ⟨by (with_reducible repeat (first | refine blk_drewN ?_ _ | refine blk_drew ?_ | refine blk_alloc ?_ _)); refine blk_far ?_ NB146_155.out _; (with_reducible repeat (first | refine blk_drewN ?_ _ | refine blk_drew ?_ | refine blk_alloc ?_ _)); refine blk_far ?_ NB146_155.out _; (with_reducible repeat (first | refine blk_drewN ?_ _ | refine blk_drew ?_ | refine blk_alloc ?_ _)); exact BK146.out⟩, ⟨by (with_reducible repeat (first | refine blk_drewN ?_ _ | refine blk_drew ?_ | refine blk_alloc ?_ _)); refine blk_far ?_ NB150_155.out _; (with_reducible repeat (first | refine blk_drewN ?_ _ | refine blk_drew ?_ | refine blk_alloc ?_ _)); refine blk_far ?_ NB150_155.out _; (with_reducible repeat (first | refine blk_drewN ?_ _ | refine blk_drew ?_ | refine blk_alloc ?_ _)); exact BK150.out⟩, ⟨by (with_reducible repeat (first | refine blk_drewN ?_ _ | refine blk_drew ?_ | refine blk_alloc ?_ _)); refine blk_put (cs := #[.int .i64 (wrap64 (((rd_T40 l0 x31_3).f2.f1) - ((rd_T40 l0 x31_3).f1))), .int .i64 0]) ?_ 1 _ rfl; (with_reducible repeat (first | refine blk_drewN ?_ _ | refine blk_drew ?_ | refine blk_alloc ?_ _)); refine blk_put (cs := #[.int .i64 0, .int .i64 0]) ?_ 0 _ rfl; (with_reducible repeat (first | refine blk_drewN ?_ _ | refine blk_drew ?_ | refine blk_alloc ?_ _)); exact BK155.out⟩, ⟨by repeat (first | (with_reducible first | exact HB.out | apply below_alloc | apply pw_below_drewN | apply below_drew1 | refine below_set ?_ GE144.out | refine below_set ?_ GE146.out | refine below_set ?_ GE150.out | refine below_set ?_ GE155.out) | exact HB.out)⟩⟩
                        case rest =>
                          clear HC21
                          try clear c1
                          try clear p1
                          try clear q1
                          try clear hx1
                          try clear c2
                          try clear p2
                          try clear c3
                          try clear c4
                          try clear p6
                          try clear c10
                          try clear c10b0
                          try clear c10b1
                          try clear c10b2
                          try clear c12
                          try clear c12b0
                          try clear c12b1
                          try clear c13
                          try clear c13b0
                          try clear c14
                          try clear c14b0
                          try clear p14
                          try clear q14
                          try clear hx14
                          try clear c15
                          try clear c15b0
                          try clear c20
                          try clear c20b0
                          try clear c20b1
                          try clear c23
                          try clear c24
                          try clear c25
                          try clear c26
                          try clear c27
                          try clear c28
                          try clear c38
                          try clear c39
                          try clear c40
                          try clear c42
                          try clear c42b0
                          try clear c42b1
                          try clear c43
                          try clear c44
                          try clear c45
                          try clear hcz24_0
                          try clear hcz24_1
                          try clear hcz24_2
                          try clear hcz24_3
                          try clear hcz29_0
                          try clear hcz29_1
                          try clear hcz30_0
                          try clear hcz30_1
                          try clear hcz30_2
                          try clear hcz30_3
                          try clear hcz32_0
                          try clear hcz32_1
                          try clear hcz32_2
                          try clear hcz32_3
                          try clear hcz34_0
                          try clear hcz34_1
                          try clear hcz34_2
                          try clear hcz34_3
                          try clear hcz36_0
                          try clear hcz36_1
                          try clear hcz36_2
                          try clear hcz36_3
                          try clear hcz41_0
                          try clear hcz41_1
                          try clear hcz46_0
                          try clear hcz46_1
                          try clear hcz9_0
                          try clear hcz9_1
                          try clear hfz24_0
                          try clear hfz24_1
                          try clear hfz24_2
                          try clear hfz24_3
                          try clear hfz29_0
                          try clear hfz29_1
                          try clear hfz30_0
                          try clear hfz30_1
                          try clear hfz30_2
                          try clear hfz30_3
                          try clear hfz32_0
                          try clear hfz32_1
                          try clear hfz32_2
                          try clear hfz32_3
                          try clear hfz34_0
                          try clear hfz34_1
                          try clear hfz34_2
                          try clear hfz34_3
                          try clear hfz36_0
                          try clear hfz36_1
                          try clear hfz36_2
                          try clear hfz36_3
                          try clear hfz41_0
                          try clear hfz41_1
                          try clear hfz46_0
                          try clear hfz46_1
                          try clear hfz9_0
                          try clear hfz9_1
                          try clear hx145_0
                          try clear hx145_1
                          try clear hx145_2
                          try clear hx145_3
                          try clear p145
                          try clear p2
                          try clear q145
                          obtain ⟨kq, x73_20, rfl, HA, HJ20, BK144, BK146, BK150, BK155, HB⟩ := hcut
                          cases kq with
                          | zero => exact absurd HA.out (by simp [ephemerislaw2_LinkOffsets.j3])
                          | succ kj20 =>
                            have H := HA.out
                            clear HA
                            simp only [ephemerislaw2_LinkOffsets.j3] at H
                            have HC47 := Aside0.mk H
                            clear H
                            go_upto_if 73 with (fail)
                            go_cut [14] (fun v14 wc => ∃ (kq : Nat) (x14_46 : Int), v14 = .int .i64 x14_46 ∧ Aside0 (ephemerislaw2_LinkOffsets.j4 kq t143 x5_3 x6_3 x7_3 x31_3 t149 t151 t152 x14_46 l0 (l0.length : Int) x31_3 t141 t142 t147 t148 (wrap64 (((rd_T40 l0 x31_3).f2.f1) - ((rd_T40 l0 x31_3).f1))) (wrap64 (((rd_T40 l0 x31_3).f2.f0) - ((rd_T40 l0 x31_3).f0))) = some r) ∧ Aside0 (kq ≤ kj20) ∧ Aside0 (wc.heap[gb144]? = some (.cells #[.int .i64 t141, .int .i64 t142] 36 (0, 0))) ∧ Aside0 (wc.heap[gb146]? = some (.cells #[.int .i64 ((rd_T40 l0 x31_3).f0), .int .i64 ((rd_T40 l0 x31_3).f1), .int .i64 ((rd_T40 l0 x31_3).f2.f0), .int .i64 ((rd_T40 l0 x31_3).f2.f1)] 40 (0, 0))) ∧ Aside0 (wc.heap[gb150]? = some (.cells #[.int .i64 t147, .int .i64 t148] 36 (0, 0))) ∧ Aside0 (wc.heap[gb155]? = some (.cells #[.int .i64 (wrap64 (((rd_T40 l0 x31_3).f2.f1) - ((rd_T40 l0 x31_3).f1))), .int .i64 (wrap64 (((rd_T40 l0 x31_3).f2.f0) - ((rd_T40 l0 x31_3).f0)))] 36 (0, 0))) ∧ Aside0 (Below w.heap.size w wc))
                            case first =>
                              have H := HC47.out
                              clear HC47
                              by_cases c48 : x73_20 = true
                              · subst c48
                                have H1 : (ephemerislaw2_LinkOffsets.j4 kj20 t143 x5_3 x6_3 x7_3 x31_3 t149 t151 t152 8 l0 (l0.length : Int) x31_3 t141 t142 t147 t148 (wrap64 (((rd_T40 l0 x31_3).f2.f1) - ((rd_T40 l0 x31_3).f1))) (wrap64 (((rd_T40 l0 x31_3).f2.f0) - ((rd_T40 l0 x31_3).f0)))) = some r := by rw [if_pos rfl] at H; exact H
                                clear H
                                have H := H1
                                clear H1
                                have H' := Aside0.mk H
                                clear H
                                go_wp2
                                go_meet
                                case rel => exact ⟨_, (8), (by first | rfl | (simp; done) | (simp [*]; done)), H', ⟨by have := HJ4.out; have := HJ10.out; have := HK3.out; have := HJ20.out; first | omega | exact Nat.le_refl _⟩, ⟨by (with_reducible repeat (first | refine blk_drewN ?_ _ | refine blk_drew ?_ | refine blk_alloc ?_ _)); exact BK144.out⟩, ⟨by (with_reducible repeat (first | refine blk_drewN ?_ _ | refine blk_drew ?_ | refine blk_alloc ?_ _)); exact BK146.out⟩, ⟨by (with_reducible repeat (first | refine blk_drewN ?_ _ | refine blk_drew ?_ | refine blk_alloc ?_ _)); exact BK150.out⟩, ⟨by (with_reducible repeat (first | refine blk_drewN ?_ _ | refine blk_drew ?_ | refine blk_alloc ?_ _)); exact BK155.out⟩, ⟨by repeat (first | (with_reducible first | exact HB.out | apply below_alloc | apply pw_below_drewN | apply below_drew1 | refine below_set ?_ GE144.out | refine below_set ?_ GE146.out | refine below_set ?_ GE150.out | refine below_set ?_ GE155.out) | exact HB.out)⟩⟩
                              · replace c48 := Bool.eq_false_iff.mpr c48
                                subst c48
                                have H1 : (ephemerislaw2_LinkOffsets.j4 kj20 t143 x5_3 x6_3 x7_3 x31_3 t149 t151 t152 t153 l0 (l0.length : Int) x31_3 t141 t142 t147 t148 (wrap64 (((rd_T40 l0 x31_3).f2.f1) - ((rd_T40 l0 x31_3).f1))) (wrap64 (((rd_T40 l0 x31_3).f2.f0) - ((rd_T40 l0 x31_3).f0)))) = some r := by rw [if_neg (show ¬ (false = true) by decide)] at H; exact H
                                clear H
                                have H := H1
                                clear H1
                                have H' := Aside0.mk H
                                clear H
                                go_wp2
                                go_meet
                                case rel => exact ⟨_, (t153), (by first | rfl | (simp; done) | (simp [*]; done)), H', ⟨by have := HJ4.out; have := HJ10.out; have := HK3.out; have := HJ20.out; first | omega | exact Nat.le_refl _⟩, ⟨by (with_reducible repeat (first | refine blk_drewN ?_ _ | refine blk_drew ?_ | refine blk_alloc ?_ _)); exact BK144.out⟩, ⟨by (with_reducible repeat (first | refine blk_drewN ?_ _ | refine blk_drew ?_ | refine blk_alloc ?_ _)); exact BK146.out⟩, ⟨by (with_reducible repeat (first | refine blk_drewN ?_ _ | refine blk_drew ?_ | refine blk_alloc ?_ _)); exact BK150.out⟩, ⟨by (with_reducible repeat (first | refine blk_drewN ?_ _ | refine blk_drew ?_ | refine blk_alloc ?_ _)); exact BK155.out⟩, ⟨by repeat (first | (with_reducible first | exact HB.out | apply below_alloc | apply pw_below_drewN | apply below_drew1 | refine below_set ?_ GE144.out | refine below_set ?_ GE146.out | refine below_set ?_ GE150.out | refine below_set ?_ GE155.out) | exact HB.out)⟩⟩
                            case rest =>
                              clear HC47
                              try clear c1
                              try clear p1
                              try clear q1
                              try clear hx1
                              try clear c2
                              try clear p2
                              try clear c3
                              try clear c4
                              try clear p6
                              try clear c10
                              try clear c10b0
                              try clear c10b1
                              try clear c10b2
                              try clear c12
                              try clear c12b0
                              try clear c12b1
                              try clear c13
                              try clear c13b0
                              try clear c14
                              try clear c14b0
                              try clear p14
                              try clear q14
                              try clear hx14
                              try clear c15
                              try clear c15b0
                              try clear c20
                              try clear c20b0
                              try clear c20b1
                              try clear c23
                              try clear c24
                              try clear c25
                              try clear c26
                              try clear c27
                              try clear c28
                              try clear c38
                              try clear c39
                              try clear c40
                              try clear c42
                              try clear c42b0
                              try clear c42b1
                              try clear c43
                              try clear c44
                              try clear c45
                              try clear c48
                              try clear hcz24_0
                              try clear hcz24_1
                              try clear hcz24_2
                              try clear hcz24_3
                              try clear hcz29_0
                              try clear hcz29_1
                              try clear hcz30_0
                              try clear hcz30_1
                              try clear hcz30_2
                              try clear hcz30_3
                              try clear hcz32_0
                              try clear hcz32_1
                              try clear hcz32_2
                              try clear hcz32_3
                              try clear hcz34_0
                              try clear hcz34_1
                              try clear hcz34_2
                              try clear hcz34_3
                              try clear hcz36_0
                              try clear hcz36_1
                              try clear hcz36_2
                              try clear hcz36_3
                              try clear hcz41_0
                              try clear hcz41_1
                              try clear hcz46_0
                              try clear hcz46_1
                              try clear hcz9_0
                              try clear hcz9_1
                              try clear hfz24_0
                              try clear hfz24_1
                              try clear hfz24_2
                              try clear hfz24_3
                              try clear hfz29_0
                              try clear hfz29_1
                              try clear hfz30_0
                              try clear hfz30_1
                              try clear hfz30_2
                              try clear hfz30_3
                              try clear hfz32_0
                              try clear hfz32_1
                              try clear hfz32_2
                              try clear hfz32_3
                              try clear hfz34_0
                              try clear hfz34_1
                              try clear hfz34_2
                              try clear hfz34_3
                              try clear hfz36_0
                              try clear hfz36_1
                              try clear hfz36_2
                              try clear hfz36_3
                              try clear hfz41_0
                              try clear hfz41_1
                              try clear hfz46_0
                              try clear hfz46_1
                              try clear hfz9_0
                              try clear hfz9_1
                              try clear hx145_0
                              try clear hx145_1
                              try clear hx145_2
                              try clear hx145_3
                              try clear p1
                              try clear p14
                              try clear p145
                              try clear p2
                              try clear p6
                              try clear q1
                              try clear q14
                              try clear q145
                              obtain ⟨kq, x14_46, rfl, HA, HJ46, BK144, BK146, BK150, BK155, HB⟩ := hcut
                              cases kq with
                              | zero => exact absurd HA.out (by simp [ephemerislaw2_LinkOffsets.j4])
                              | succ kj46 =>
                                have H := HA.out
                                clear HA
                                simp only [ephemerislaw2_LinkOffsets.j4] at H
                                have HC49 := Aside0.mk H
                                clear H
                                go_upto_if 75 with (fail)
                                go_cut [] (fun wc => ∃ (kq : Nat), Aside0 (ephemerislaw2_LinkOffsets.j5 kq t143 x5_3 x6_3 x7_3 x31_3 x14_46 l0 (l0.length : Int) x31_3 t141 t142 (wrap64 (((rd_T40 l0 x31_3).f2.f1) - ((rd_T40 l0 x31_3).f1))) (wrap64 (((rd_T40 l0 x31_3).f2.f0) - ((rd_T40 l0 x31_3).f0))) = some r) ∧ Aside0 (kq ≤ kj46) ∧ Aside0 (wc.heap[gb144]? = some (.cells #[.int .i64 t141, .int .i64 t142] 36 (0, 0))) ∧ Aside0 (wc.heap[gb146]? = some (.cells #[.int .i64 ((rd_T40 l0 x31_3).f0), .int .i64 ((rd_T40 l0 x31_3).f1), .int .i64 ((rd_T40 l0 x31_3).f2.f0), .int .i64 ((rd_T40 l0 x31_3).f2.f1)] 40 (0, 0))) ∧ Aside0 (wc.heap[gb150]? = some (.cells #[.int .i64 t147, .int .i64 t148] 36 (0, 0))) ∧ Aside0 (wc.heap[gb155]? = some (.cells #[.int .i64 (wrap64 (((rd_T40 l0 x31_3).f2.f1) - ((rd_T40 l0 x31_3).f1))), .int .i64 (wrap64 (((rd_T40 l0 x31_3).f2.f0) - ((rd_T40 l0 x31_3).f0)))] 36 (0, 0))) ∧ Aside0 (Below w.heap.size w wc))
                                case first =>
                                  have H := HC49.out
                                  clear HC49
                                  by_cases c50 : x14_46 = 0
                                  · rw [if_pos c50] at H
                                    have c50b0 : (x14_46 == 0) = true := beq_iff_eq.mpr c50
                                    have c50b1 : (x14_46 != 0) = false := bne_eq_false_iff_eq.mpr c50
                                    clear c50
                                    (first | rw [c50b0] | (simp only [i64_w, i32_w]; rw [c50b0]) | skip)
                                    by_cases c51 : t149 = 0
                                    · rw [if_pos c51] at H
                                      have c51b0 : (t149 == 0) = true := beq_iff_eq.mpr c51
                                      have c51b1 : (t149 != 0) = false := bne_eq_false_iff_eq.mpr c51
                                      clear c51
                                      by_cases c52 : (!(t147 == (wrap64 (((rd_T40 l0 x31_3).f2.f1) - ((rd_T40 l0 x31_3).f1)))) || (!(t148 == (wrap64 (((rd_T40 l0 x31_3).f2.f0) - ((rd_T40 l0 x31_3).f0)))))) = true
                                      · rw [if_pos c52] at H
                                        have c52b0 : (!(t147 == (wrap64 (((rd_T40 l0 x31_3).f2.f1) - ((rd_T40 l0 x31_3).f1)))) || (!(t148 == (wrap64 (((rd_T40 l0 x31_3).f2.f0) - ((rd_T40 l0 x31_3).f0)))))) = true := c52
                                        clear c52
                                        obtain rfl := Option.some.inj H
                                        have hnb53 := NB150_144.out
                                        have hnc53 := NB144_150.out
                                        have hnb54 := NB150_146.out
                                        have hnc54 := NB146_150.out
                                        have hnb55 := NB150_155.out
                                        have hnc55 := NB155_150.out
                                        have hcz56_0 : wc.cell? ⟨gb150, 0, none⟩ = some (.int .i64 t147) := (blk_cell BK150.out 0).trans rfl
                                        have hcz56_1 : wc.cell? ⟨gb150, 1, none⟩ = some (.int .i64 t148) := (blk_cell BK150.out 1).trans rfl
                                        have hfz56_0 := blk_frozen BK150.out 0
                                        have hfz56_1 := blk_frozen BK150.out 1
                                        have hnb57 := NB155_144.out
                                        have hnc57 := NB144_155.out
                                        have hnb58 := NB155_146.out
                                        have hnc58 := NB146_155.out
                                        have hcz59_0 : wc.cell? ⟨gb155, 0, none⟩ = some (.int .i64 (wrap64 (((rd_T40 l0 x31_3).f2.f1) - ((rd_T40 l0 x31_3).f1)))) := (blk_cell BK155.out 0).trans rfl
                                        have hcz59_1 : wc.cell? ⟨gb155, 1, none⟩ = some (.int .i64 (wrap64 (((rd_T40 l0 x31_3).f2.f0) - ((rd_T40 l0 x31_3).f0)))) := (blk_cell BK155.out 1).trans rfl
                                        have hfz59_0 := blk_frozen BK155.out 0
                                        have hfz59_1 := blk_frozen BK155.out 1
                                        go_wp2
                                        go_ret
                                        exact ⟨by first | rfl | (simp [errW_none, errW_some] <;> rfl) | (simp [*, errW_none, errW_some] <;> rfl), by repeat (first | (with_reducible first | exact HB.out | apply below_alloc | apply pw_below_drewN | apply below_drew1 | refine below_set ?_ GE144.out | refine below_set ?_ GE146.out | refine below_set ?_ GE150.out | refine below_set ?_ GE155.out) | exact HB.out)⟩
                                      · rw [if_neg c52] at H
                                        have c52b0 : (!(t147 == (wrap64 (((rd_T40 l0 x31_3).f2.f1) - ((rd_T40 l0 x31_3).f1)))) || (!(t148 == (wrap64 (((rd_T40 l0 x31_3).f2.f0) - ((rd_T40 l0 x31_3).f0)))))) = false := by simpa using c52
                                        clear c52
                                        by_cases c60 : t152 = 0
                                        · rw [if_pos c60] at H
                                          have c60b0 : (t152 == 0) = true := beq_iff_eq.mpr c60
                                          have c60b1 : (t152 != 0) = false := bne_eq_false_iff_eq.mpr c60
                                          clear c60
                                          by_cases c61 : t151 = (wrap64 ((wrap64 (((rd_T40 l0 x31_3).f2.f0) - ((rd_T40 l0 x31_3).f0))) - (wrap64 (((rd_T40 l0 x31_3).f2.f1) - ((rd_T40 l0 x31_3).f1)))))
                                          · rw [if_pos c61] at H
                                            have c61b0 : (t151 == (wrap64 ((wrap64 (((rd_T40 l0 x31_3).f2.f0) - ((rd_T40 l0 x31_3).f0))) - (wrap64 (((rd_T40 l0 x31_3).f2.f1) - ((rd_T40 l0 x31_3).f1)))))) = true := beq_iff_eq.mpr c61
                                            have c61b1 : (t151 != (wrap64 ((wrap64 (((rd_T40 l0 x31_3).f2.f0) - ((rd_T40 l0 x31_3).f0))) - (wrap64 (((rd_T40 l0 x31_3).f2.f1) - ((rd_T40 l0 x31_3).f1)))))) = false := bne_eq_false_iff_eq.mpr c61
                                            clear c61
                                            have H' := Aside0.mk H
                                            clear H
                                            have hnb62 := NB150_144.out
                                            have hnc62 := NB144_150.out
                                            have hnb63 := NB150_146.out
                                            have hnc63 := NB146_150.out
                                            have hnb64 := NB150_155.out
                                            have hnc64 := NB155_150.out
                                            have hcz65_0 : wc.cell? ⟨gb150, 0, none⟩ = some (.int .i64 t147) := (blk_cell BK150.out 0).trans rfl
                                            have hcz65_1 : wc.cell? ⟨gb150, 1, none⟩ = some (.int .i64 t148) := (blk_cell BK150.out 1).trans rfl
                                            have hfz65_0 := blk_frozen BK150.out 0
                                            have hfz65_1 := blk_frozen BK150.out 1
                                            have hnb66 := NB155_144.out
                                            have hnc66 := NB144_155.out
                                            have hnb67 := NB155_146.out
                                            have hnc67 := NB146_155.out
                                            have hcz68_0 : wc.cell? ⟨gb155, 0, none⟩ = some (.int .i64 (wrap64 (((rd_T40 l0 x31_3).f2.f1) - ((rd_T40 l0 x31_3).f1)))) := (blk_cell BK155.out 0).trans rfl
                                            have hcz68_1 : wc.cell? ⟨gb155, 1, none⟩ = some (.int .i64 (wrap64 (((rd_T40 l0 x31_3).f2.f0) - ((rd_T40 l0 x31_3).f0)))) := (blk_cell BK155.out 1).trans rfl
                                            have hfz68_0 := blk_frozen BK155.out 0
                                            have hfz68_1 := blk_frozen BK155.out 1
                                            go_wp2
                                            go_meet
                                            case rel => exact ⟨_, H', ⟨by have := HJ4.out; have := HJ10.out; have := HK3.out; have := HJ20.out; have := HJ46.out; first | omega | exact Nat.le_refl _⟩, ⟨by (with_reducible repeat (first | refine blk_drewN ?_ _ | refine blk_drew ?_ | refine blk_alloc ?_ _)); exact BK144.out⟩, ⟨by (with_reducible repeat (first | refine blk_drewN ?_ _ | refine blk_drew ?_ | refine blk_alloc ?_ _)); exact BK146.out⟩, ⟨by (with_reducible repeat (first | refine blk_drewN ?_ _ | refine blk_drew ?_ | refine blk_alloc ?_ _)); exact BK150.out⟩, ⟨by (with_reducible repeat (first | refine blk_drewN ?_ _ | refine blk_drew ?_ | refine blk_alloc ?_ _)); exact BK155.out⟩, ⟨by repeat (first | (with_reducible first | exact HB.out | apply below_alloc | apply pw_below_drewN | apply below_drew1 | refine below_set ?_ GE144.out | refine below_set ?_ GE146.out | refine below_set ?_ GE150.out | refine below_set ?_ GE155.out) | exact HB.out)⟩⟩
                                          · rw [if_neg c61] at H
                                            have c61b0 : (t151 == (wrap64 ((wrap64 (((rd_T40 l0 x31_3).f2.f0) - ((rd_T40 l0 x31_3).f0))) - (wrap64 (((rd_T40 l0 x31_3).f2.f1) - ((rd_T40 l0 x31_3).f1)))))) = false := beq_eq_false_iff_ne.mpr c61
                                            have c61b1 : (t151 != (wrap64 ((wrap64 (((rd_T40 l0 x31_3).f2.f0) - ((rd_T40 l0 x31_3).f0))) - (wrap64 (((rd_T40 l0 x31_3).f2.f1) - ((rd_T40 l0 x31_3).f1)))))) = true := bne_iff_ne.mpr c61
                                            obtain rfl := Option.some.inj H
                                            have hnb69 := NB150_144.out
                                            have hnc69 := NB144_150.out
                                            have hnb70 := NB150_146.out
                                            have hnc70 := NB146_150.out
                                            have hnb71 := NB150_155.out
                                            have hnc71 := NB155_150.out
                                            have hcz72_0 : wc.cell? ⟨gb150, 0, none⟩ = some (.int .i64 t147) := (blk_cell BK150.out 0).trans rfl
                                            have hcz72_1 : wc.cell? ⟨gb150, 1, none⟩ = some (.int .i64 t148) := (blk_cell BK150.out 1).trans rfl
                                            have hfz72_0 := blk_frozen BK150.out 0
                                            have hfz72_1 := blk_frozen BK150.out 1
                                            have hnb73 := NB155_144.out
                                            have hnc73 := NB144_155.out
                                            have hnb74 := NB155_146.out
                                            have hnc74 := NB146_155.out
                                            have hcz75_0 : wc.cell? ⟨gb155, 0, none⟩ = some (.int .i64 (wrap64 (((rd_T40 l0 x31_3).f2.f1) - ((rd_T40 l0 x31_3).f1)))) := (blk_cell BK155.out 0).trans rfl
                                            have hcz75_1 : wc.cell? ⟨gb155, 1, none⟩ = some (.int .i64 (wrap64 (((rd_T40 l0 x31_3).f2.f0) - ((rd_T40 l0 x31_3).f0)))) := (blk_cell BK155.out 1).trans rfl
                                            have hfz75_0 := blk_frozen BK155.out 0
                                            have hfz75_1 := blk_frozen BK155.out 1
                                            go_wp2
                                            go_ret
                                            exact ⟨by first | rfl | (simp [errW_none, errW_some] <;> rfl) | (simp [*, errW_none, errW_some] <;> rfl), by repeat (first | (with_reducible first | exact HB.out | apply below_alloc | apply pw_below_drewN | apply below_drew1 | refine below_set ?_ GE144.out | refine below_set ?_ GE146.out | refine below_set ?_ GE150.out | refine below_set ?_ GE155.out) | exact HB.out)⟩
                                        · rw [if_neg c60] at H
                                          have c60b0 : (t152 == 0) = false := beq_eq_false_iff_ne.mpr c60
                                          have c60b1 : (t152 != 0) = true := bne_iff_ne.mpr c60
                                          obtain rfl := Option.some.inj H
                                          have hnb76 := NB150_144.out
                                          have hnc76 := NB144_150.out
                                          have hnb77 := NB150_146.out
                                          have hnc77 := NB146_150.out
                                          have hnb78 := NB150_155.out
                                          have hnc78 := NB155_150.out
                                          have hcz79_0 : wc.cell? ⟨gb150, 0, none⟩ = some (.int .i64 t147) := (blk_cell BK150.out 0).trans rfl
                                          have hcz79_1 : wc.cell? ⟨gb150, 1, none⟩ = some (.int .i64 t148) := (blk_cell BK150.out 1).trans rfl
                                          have hfz79_0 := blk_frozen BK150.out 0
                                          have hfz79_1 := blk_frozen BK150.out 1
                                          have hnb80 := NB155_144.out
                                          have hnc80 := NB144_155.out
                                          have hnb81 := NB155_146.out
                                          have hnc81 := NB146_155.out
                                          have hcz82_0 : wc.cell? ⟨gb155, 0, none⟩ = some (.int .i64 (wrap64 (((rd_T40 l0 x31_3).f2.f1) - ((rd_T40 l0 x31_3).f1)))) := (blk_cell BK155.out 0).trans rfl
                                          have hcz82_1 : wc.cell? ⟨gb155, 1, none⟩ = some (.int .i64 (wrap64 (((rd_T40 l0 x31_3).f2.f0) - ((rd_T40 l0 x31_3).f0)))) := (blk_cell BK155.out 1).trans rfl
                                          have hfz82_0 := blk_frozen BK155.out 0
                                          have hfz82_1 := blk_frozen BK155.out 1
                                          go_wp2
                                          go_ret
                                          exact ⟨by first | rfl | (simp [errW_none, errW_some] <;> rfl) | (simp [*, errW_none, errW_some] <;> rfl), by repeat (first | (with_reducible first | exact HB.out | apply below_alloc | apply pw_below_drewN | apply below_drew1 | refine below_set ?_ GE144.out | refine below_set ?_ GE146.out | refine below_set ?_ GE150.out | refine below_set ?_ GE155.out) | exact HB.out)⟩
                                    · rw [if_neg c51] at H
                                      have c51b0 : (t149 == 0) = false := beq_eq_false_iff_ne.mpr c51
                                      have c51b1 : (t149 != 0) = true := bne_iff_ne.mpr c51
                                      obtain rfl := Option.some.inj H
                                      go_wp2
                                      go_ret
                                      exact ⟨by first | rfl | (simp [errW_none, errW_some] <;> rfl) | (simp [*, errW_none, errW_some] <;> rfl), by repeat (first | (with_reducible first | exact HB.out | apply below_alloc | apply pw_below_drewN | apply below_drew1 | refine below_set ?_ GE144.out | refine below_set ?_ GE146.out | refine below_set ?_ GE150.out | refine below_set ?_ GE155.out) | exact HB.out)⟩
                                  · rw [if_neg c50] at H
                                    have c50b0 : (x14_46 == 0) = false := beq_eq_false_iff_ne.mpr c50
                                    have c50b1 : (x14_46 != 0) = true := bne_iff_ne.mpr c50
                                    (first | rw [c50b0] | (simp only [i64_w, i32_w]; rw [c50b0]) | skip)
                                    replace H := Option.bind_eq_some_iff.mp H
                                    obtain ⟨t156, A830, H⟩ := H
                                    replace H : (if t156 = true then (if t152 = x14_46 then (if t151 = 0 then (ephemerislaw2_LinkOffsets.j5 kj46 t143 x5_3 x6_3 x7_3 x31_3 x14_46 l0 (l0.length : Int) x31_3 t141 t142 (wrap64 (((rd_T40 l0 x31_3).f2.f1) - ((rd_T40 l0 x31_3).f1))) (wrap64 (((rd_T40 l0 x31_3).f2.f0) - ((rd_T40 l0 x31_3).f0)))) else (some false)) else (some false)) else (some false)) = some r := H
                                    have A83 := Aside0.mk A830
                                    clear A830
                                    by_cases c84 : t156 = true
                                    · subst c84
                                      have H1 : (if t152 = x14_46 then (if t151 = 0 then (ephemerislaw2_LinkOffsets.j5 kj46 t143 x5_3 x6_3 x7_3 x31_3 x14_46 l0 (l0.length : Int) x31_3 t141 t142 (wrap64 (((rd_T40 l0 x31_3).f2.f1) - ((rd_T40 l0 x31_3).f1))) (wrap64 (((rd_T40 l0 x31_3).f2.f0) - ((rd_T40 l0 x31_3).f0)))) else (some false)) else (some false)) = some r := by rw [if_pos rfl] at H; exact H
                                      clear H
                                      have H := H1
                                      clear H1
                                      by_cases c85 : t152 = x14_46
                                      · rw [if_pos c85] at H
                                        have c85b0 : (t152 == x14_46) = true := beq_iff_eq.mpr c85
                                        have c85b1 : (t152 != x14_46) = false := bne_eq_false_iff_eq.mpr c85
                                        clear c85
                                        by_cases c86 : t151 = 0
                                        · rw [if_pos c86] at H
                                          have c86b0 : (t151 == 0) = true := beq_iff_eq.mpr c86
                                          have c86b1 : (t151 != 0) = false := bne_eq_false_iff_eq.mpr c86
                                          clear c86
                                          have H' := Aside0.mk H
                                          clear H
                                          have hnb87 := NB150_144.out
                                          have hnc87 := NB144_150.out
                                          have hnb88 := NB150_146.out
                                          have hnc88 := NB146_150.out
                                          have hnb89 := NB150_155.out
                                          have hnc89 := NB155_150.out
                                          have hcz90_0 : wc.cell? ⟨gb150, 0, none⟩ = some (.int .i64 t147) := (blk_cell BK150.out 0).trans rfl
                                          have hcz90_1 : wc.cell? ⟨gb150, 1, none⟩ = some (.int .i64 t148) := (blk_cell BK150.out 1).trans rfl
                                          have hfz90_0 := blk_frozen BK150.out 0
                                          have hfz90_1 := blk_frozen BK150.out 1
                                          go_wp2_with (first | ((with_reducible refine gate_callee (f := 29) rfl ?_); refine goesL_ (some 79) rfl rfl Try.func29 (by kernel_rfl) rfl #[.agg #[.int .i64 t147, .int .i64 t148], .int .i64 t149, .int .i64 x14_46] rfl (by (try simp only [List.map_toArray, List.map_cons, List.map_nil]); first | done | rfl | (simp only [List.length_drop, List.length_take]; rfl)) ?_; (with_reducible refine (ephemerislaw2_none.calls t147 t148 t149 x14_46 true _ A83.out).mono ?_); rintro e w91 ⟨rfl, hb⟩; refine ⟨_, rfl, ?_⟩; have n0_ := Aside0.mk (blk_below (g := gb144) (o := .cells #[.int .i64 t141, .int .i64 t142] 36 (0, 0)) (by (with_reducible repeat (first | refine blk_drewN ?_ _ | refine blk_drew ?_ | refine blk_alloc ?_ _)); exact BK144.out) hb); have n1_ := Aside0.mk (blk_below (g := gb146) (o := .cells #[.int .i64 ((rd_T40 l0 x31_3).f0), .int .i64 ((rd_T40 l0 x31_3).f1), .int .i64 ((rd_T40 l0 x31_3).f2.f0), .int .i64 ((rd_T40 l0 x31_3).f2.f1)] 40 (0, 0)) (by (with_reducible repeat (first | refine blk_drewN ?_ _ | refine blk_drew ?_ | refine blk_alloc ?_ _)); exact BK146.out) hb); have n2_ := Aside0.mk (blk_below (g := gb150) (o := .cells #[.int .i64 t147, .int .i64 t148] 36 (0, 0)) (by (with_reducible repeat (first | refine blk_drewN ?_ _ | refine blk_drew ?_ | refine blk_alloc ?_ _)); exact BK150.out) hb); have n3_ := Aside0.mk (blk_below (g := gb155) (o := .cells #[.int .i64 (wrap64 (((rd_T40 l0 x31_3).f2.f1) - ((rd_T40 l0 x31_3).f1))), .int .i64 (wrap64 (((rd_T40 l0 x31_3).f2.f0) - ((rd_T40 l0 x31_3).f0)))] 36 (0, 0)) (by (with_reducible repeat (first | refine blk_drewN ?_ _ | refine blk_drew ?_ | refine blk_alloc ?_ _)); exact BK155.out) hb); have n4_ := Aside0.mk (below_step (by repeat (first | (with_reducible first | exact HB.out | apply below_alloc | apply pw_below_drewN | apply below_drew1 | refine below_set ?_ GE144.out | refine below_set ?_ GE146.out | refine below_set ?_ GE150.out | refine below_set ?_ GE155.out) | exact HB.out)) hb); clear BK144; clear BK146; clear BK150; clear BK155; clear HB; have BK144 := n0_; have BK146 := n1_; have BK150 := n2_; have BK155 := n3_; have HB := n4_; clear n0_ n1_ n2_ n3_ n4_; (try clear hb); (try clear hb2); (try clear hk); (try clear hi)))
                                          go_meet
                                          case rel => exact ⟨_, H', ⟨by have := HJ4.out; have := HJ10.out; have := HK3.out; have := HJ20.out; have := HJ46.out; first | omega | exact Nat.le_refl _⟩, ⟨by (with_reducible repeat (first | refine blk_drewN ?_ _ | refine blk_drew ?_ | refine blk_alloc ?_ _)); exact BK144.out⟩, ⟨by (with_reducible repeat (first | refine blk_drewN ?_ _ | refine blk_drew ?_ | refine blk_alloc ?_ _)); exact BK146.out⟩, ⟨by (with_reducible repeat (first | refine blk_drewN ?_ _ | refine blk_drew ?_ | refine blk_alloc ?_ _)); exact BK150.out⟩, ⟨by (with_reducible repeat (first | refine blk_drewN ?_ _ | refine blk_drew ?_ | refine blk_alloc ?_ _)); exact BK155.out⟩, ⟨by repeat (first | (with_reducible first | exact HB.out | apply below_alloc | apply pw_below_drewN | apply below_drew1 | refine below_set ?_ GE144.out | refine below_set ?_ GE146.out | refine below_set ?_ GE150.out | refine below_set ?_ GE155.out) | exact HB.out)⟩⟩
                                        · rw [if_neg c86] at H
                                          have c86b0 : (t151 == 0) = false := beq_eq_false_iff_ne.mpr c86
                                          have c86b1 : (t151 != 0) = true := bne_iff_ne.mpr c86
                                          obtain rfl := Option.some.inj H
                                          have hnb92 := NB150_144.out
                                          have hnc92 := NB144_150.out
                                          have hnb93 := NB150_146.out
                                          have hnc93 := NB146_150.out
                                          have hnb94 := NB150_155.out
                                          have hnc94 := NB155_150.out
                                          have hcz95_0 : wc.cell? ⟨gb150, 0, none⟩ = some (.int .i64 t147) := (blk_cell BK150.out 0).trans rfl
                                          have hcz95_1 : wc.cell? ⟨gb150, 1, none⟩ = some (.int .i64 t148) := (blk_cell BK150.out 1).trans rfl
                                          have hfz95_0 := blk_frozen BK150.out 0
                                          have hfz95_1 := blk_frozen BK150.out 1
                                          go_wp2_with (first | ((with_reducible refine gate_callee (f := 29) rfl ?_); refine goesL_ (some 79) rfl rfl Try.func29 (by kernel_rfl) rfl #[.agg #[.int .i64 t147, .int .i64 t148], .int .i64 t149, .int .i64 x14_46] rfl (by (try simp only [List.map_toArray, List.map_cons, List.map_nil]); first | done | rfl | (simp only [List.length_drop, List.length_take]; rfl)) ?_; (with_reducible refine (ephemerislaw2_none.calls t147 t148 t149 x14_46 true _ A83.out).mono ?_); rintro e w96 ⟨rfl, hb⟩; refine ⟨_, rfl, ?_⟩; have n0_ := Aside0.mk (blk_below (g := gb144) (o := .cells #[.int .i64 t141, .int .i64 t142] 36 (0, 0)) (by (with_reducible repeat (first | refine blk_drewN ?_ _ | refine blk_drew ?_ | refine blk_alloc ?_ _)); exact BK144.out) hb); have n1_ := Aside0.mk (blk_below (g := gb146) (o := .cells #[.int .i64 ((rd_T40 l0 x31_3).f0), .int .i64 ((rd_T40 l0 x31_3).f1), .int .i64 ((rd_T40 l0 x31_3).f2.f0), .int .i64 ((rd_T40 l0 x31_3).f2.f1)] 40 (0, 0)) (by (with_reducible repeat (first | refine blk_drewN ?_ _ | refine blk_drew ?_ | refine blk_alloc ?_ _)); exact BK146.out) hb); have n2_ := Aside0.mk (blk_below (g := gb150) (o := .cells #[.int .i64 t147, .int .i64 t148] 36 (0, 0)) (by (with_reducible repeat (first | refine blk_drewN ?_ _ | refine blk_drew ?_ | refine blk_alloc ?_ _)); exact BK150.out) hb); have n3_ := Aside0.mk (blk_below (g := gb155) (o := .cells #[.int .i64 (wrap64 (((rd_T40 l0 x31_3).f2.f1) - ((rd_T40 l0 x31_3).f1))), .int .i64 (wrap64 (((rd_T40 l0 x31_3).f2.f0) - ((rd_T40 l0 x31_3).f0)))] 36 (0, 0)) (by (with_reducible repeat (first | refine blk_drewN ?_ _ | refine blk_drew ?_ | refine blk_alloc ?_ _)); exact BK155.out) hb); have n4_ := Aside0.mk (below_step (by repeat (first | (with_reducible first | exact HB.out | apply below_alloc | apply pw_below_drewN | apply below_drew1 | refine below_set ?_ GE144.out | refine below_set ?_ GE146.out | refine below_set ?_ GE150.out | refine below_set ?_ GE155.out) | exact HB.out)) hb); clear BK144; clear BK146; clear BK150; clear BK155; clear HB; have BK144 := n0_; have BK146 := n1_; have BK150 := n2_; have BK155 := n3_; have HB := n4_; clear n0_ n1_ n2_ n3_ n4_; (try clear hb); (try clear hb2); (try clear hk); (try clear hi)))
                                          go_ret
                                          exact ⟨by first | rfl | (simp [errW_none, errW_some] <;> rfl) | (simp [*, errW_none, errW_some] <;> rfl), by repeat (first | (with_reducible first | exact HB.out | apply below_alloc | apply pw_below_drewN | apply below_drew1 | refine below_set ?_ GE144.out | refine below_set ?_ GE146.out | refine below_set ?_ GE150.out | refine below_set ?_ GE155.out) | exact HB.out)⟩
                                      · rw [if_neg c85] at H
                                        have c85b0 : (t152 == x14_46) = false := beq_eq_false_iff_ne.mpr c85
                                        have c85b1 : (t152 != x14_46) = true := bne_iff_ne.mpr c85
                                        obtain rfl := Option.some.inj H
                                        have hnb97 := NB150_144.out
                                        have hnc97 := NB144_150.out
                                        have hnb98 := NB150_146.out
                                        have hnc98 := NB146_150.out
                                        have hnb99 := NB150_155.out
                                        have hnc99 := NB155_150.out
                                        have hcz100_0 : wc.cell? ⟨gb150, 0, none⟩ = some (.int .i64 t147) := (blk_cell BK150.out 0).trans rfl
                                        have hcz100_1 : wc.cell? ⟨gb150, 1, none⟩ = some (.int .i64 t148) := (blk_cell BK150.out 1).trans rfl
                                        have hfz100_0 := blk_frozen BK150.out 0
                                        have hfz100_1 := blk_frozen BK150.out 1
                                        go_wp2_with (first | ((with_reducible refine gate_callee (f := 29) rfl ?_); refine goesL_ (some 79) rfl rfl Try.func29 (by kernel_rfl) rfl #[.agg #[.int .i64 t147, .int .i64 t148], .int .i64 t149, .int .i64 x14_46] rfl (by (try simp only [List.map_toArray, List.map_cons, List.map_nil]); first | done | rfl | (simp only [List.length_drop, List.length_take]; rfl)) ?_; (with_reducible refine (ephemerislaw2_none.calls t147 t148 t149 x14_46 true _ A83.out).mono ?_); rintro e w101 ⟨rfl, hb⟩; refine ⟨_, rfl, ?_⟩; have n0_ := Aside0.mk (blk_below (g := gb144) (o := .cells #[.int .i64 t141, .int .i64 t142] 36 (0, 0)) (by (with_reducible repeat (first | refine blk_drewN ?_ _ | refine blk_drew ?_ | refine blk_alloc ?_ _)); exact BK144.out) hb); have n1_ := Aside0.mk (blk_below (g := gb146) (o := .cells #[.int .i64 ((rd_T40 l0 x31_3).f0), .int .i64 ((rd_T40 l0 x31_3).f1), .int .i64 ((rd_T40 l0 x31_3).f2.f0), .int .i64 ((rd_T40 l0 x31_3).f2.f1)] 40 (0, 0)) (by (with_reducible repeat (first | refine blk_drewN ?_ _ | refine blk_drew ?_ | refine blk_alloc ?_ _)); exact BK146.out) hb); have n2_ := Aside0.mk (blk_below (g := gb150) (o := .cells #[.int .i64 t147, .int .i64 t148] 36 (0, 0)) (by (with_reducible repeat (first | refine blk_drewN ?_ _ | refine blk_drew ?_ | refine blk_alloc ?_ _)); exact BK150.out) hb); have n3_ := Aside0.mk (blk_below (g := gb155) (o := .cells #[.int .i64 (wrap64 (((rd_T40 l0 x31_3).f2.f1) - ((rd_T40 l0 x31_3).f1))), .int .i64 (wrap64 (((rd_T40 l0 x31_3).f2.f0) - ((rd_T40 l0 x31_3).f0)))] 36 (0, 0)) (by (with_reducible repeat (first | refine blk_drewN ?_ _ | refine blk_drew ?_ | refine blk_alloc ?_ _)); exact BK155.out) hb); have n4_ := Aside0.mk (below_step (by repeat (first | (with_reducible first | exact HB.out | apply below_alloc | apply pw_below_drewN | apply below_drew1 | refine below_set ?_ GE144.out | refine below_set ?_ GE146.out | refine below_set ?_ GE150.out | refine below_set ?_ GE155.out) | exact HB.out)) hb); clear BK144; clear BK146; clear BK150; clear BK155; clear HB; have BK144 := n0_; have BK146 := n1_; have BK150 := n2_; have BK155 := n3_; have HB := n4_; clear n0_ n1_ n2_ n3_ n4_; (try clear hb); (try clear hb2); (try clear hk); (try clear hi)))
                                        go_ret
                                        exact ⟨by first | rfl | (simp [errW_none, errW_some] <;> rfl) | (simp [*, errW_none, errW_some] <;> rfl), by repeat (first | (with_reducible first | exact HB.out | apply below_alloc | apply pw_below_drewN | apply below_drew1 | refine below_set ?_ GE144.out | refine below_set ?_ GE146.out | refine below_set ?_ GE150.out | refine below_set ?_ GE155.out) | exact HB.out)⟩
                                    · replace c84 := Bool.eq_false_iff.mpr c84
                                      subst c84
                                      have H1 : (some false) = some r := by rw [if_neg (show ¬ (false = true) by decide)] at H; exact H
                                      clear H
                                      have H := H1
                                      clear H1
                                      obtain rfl := Option.some.inj H
                                      have hnb102 := NB150_144.out
                                      have hnc102 := NB144_150.out
                                      have hnb103 := NB150_146.out
                                      have hnc103 := NB146_150.out
                                      have hnb104 := NB150_155.out
                                      have hnc104 := NB155_150.out
                                      have hcz105_0 : wc.cell? ⟨gb150, 0, none⟩ = some (.int .i64 t147) := (blk_cell BK150.out 0).trans rfl
                                      have hcz105_1 : wc.cell? ⟨gb150, 1, none⟩ = some (.int .i64 t148) := (blk_cell BK150.out 1).trans rfl
                                      have hfz105_0 := blk_frozen BK150.out 0
                                      have hfz105_1 := blk_frozen BK150.out 1
                                      go_wp2_with (first | ((with_reducible refine gate_callee (f := 29) rfl ?_); refine goesL_ (some 79) rfl rfl Try.func29 (by kernel_rfl) rfl #[.agg #[.int .i64 t147, .int .i64 t148], .int .i64 t149, .int .i64 x14_46] rfl (by (try simp only [List.map_toArray, List.map_cons, List.map_nil]); first | done | rfl | (simp only [List.length_drop, List.length_take]; rfl)) ?_; (with_reducible refine (ephemerislaw2_none.calls t147 t148 t149 x14_46 false _ A83.out).mono ?_); rintro e w106 ⟨rfl, hb⟩; refine ⟨_, rfl, ?_⟩; have n0_ := Aside0.mk (blk_below (g := gb144) (o := .cells #[.int .i64 t141, .int .i64 t142] 36 (0, 0)) (by (with_reducible repeat (first | refine blk_drewN ?_ _ | refine blk_drew ?_ | refine blk_alloc ?_ _)); exact BK144.out) hb); have n1_ := Aside0.mk (blk_below (g := gb146) (o := .cells #[.int .i64 ((rd_T40 l0 x31_3).f0), .int .i64 ((rd_T40 l0 x31_3).f1), .int .i64 ((rd_T40 l0 x31_3).f2.f0), .int .i64 ((rd_T40 l0 x31_3).f2.f1)] 40 (0, 0)) (by (with_reducible repeat (first | refine blk_drewN ?_ _ | refine blk_drew ?_ | refine blk_alloc ?_ _)); exact BK146.out) hb); have n2_ := Aside0.mk (blk_below (g := gb150) (o := .cells #[.int .i64 t147, .int .i64 t148] 36 (0, 0)) (by (with_reducible repeat (first | refine blk_drewN ?_ _ | refine blk_drew ?_ | refine blk_alloc ?_ _)); exact BK150.out) hb); have n3_ := Aside0.mk (blk_below (g := gb155) (o := .cells #[.int .i64 (wrap64 (((rd_T40 l0 x31_3).f2.f1) - ((rd_T40 l0 x31_3).f1))), .int .i64 (wrap64 (((rd_T40 l0 x31_3).f2.f0) - ((rd_T40 l0 x31_3).f0)))] 36 (0, 0)) (by (with_reducible repeat (first | refine blk_drewN ?_ _ | refine blk_drew ?_ | refine blk_alloc ?_ _)); exact BK155.out) hb); have n4_ := Aside0.mk (below_step (by repeat (first | (with_reducible first | exact HB.out | apply below_alloc | apply pw_below_drewN | apply below_drew1 | refine below_set ?_ GE144.out | refine below_set ?_ GE146.out | refine below_set ?_ GE150.out | refine below_set ?_ GE155.out) | exact HB.out)) hb); clear BK144; clear BK146; clear BK150; clear BK155; clear HB; have BK144 := n0_; have BK146 := n1_; have BK150 := n2_; have BK155 := n3_; have HB := n4_; clear n0_ n1_ n2_ n3_ n4_; (try clear hb); (try clear hb2); (try clear hk); (try clear hi)))
                                      go_ret
                                      exact ⟨by first | rfl | (simp [errW_none, errW_some] <;> rfl) | (simp [*, errW_none, errW_some] <;> rfl), by repeat (first | (with_reducible first | exact HB.out | apply below_alloc | apply pw_below_drewN | apply below_drew1 | refine below_set ?_ GE144.out | refine below_set ?_ GE146.out | refine below_set ?_ GE150.out | refine below_set ?_ GE155.out) | exact HB.out)⟩
                                case rest =>
                                  clear HC49
                                  try clear c1
                                  try clear p1
                                  try clear q1
                                  try clear hx1
                                  try clear c2
                                  try clear p2
                                  try clear c3
                                  try clear c4
                                  try clear c5
                                  try clear c6
                                  try clear p6
                                  try clear c7
                                  try clear c8
                                  try clear c9
                                  try clear c10
                                  try clear c10b0
                                  try clear c10b1
                                  try clear c10b2
                                  try clear c12
                                  try clear c12b0
                                  try clear c12b1
                                  try clear c13
                                  try clear c13b0
                                  try clear c14
                                  try clear c14b0
                                  try clear p14
                                  try clear q14
                                  try clear hx14
                                  try clear c15
                                  try clear c15b0
                                  try clear c20
                                  try clear c20b0
                                  try clear c20b1
                                  try clear c23
                                  try clear c24
                                  try clear c25
                                  try clear c26
                                  try clear c27
                                  try clear c28
                                  try clear c29
                                  try clear c38
                                  try clear c39
                                  try clear c40
                                  try clear c42
                                  try clear c42b0
                                  try clear c42b1
                                  try clear c43
                                  try clear c44
                                  try clear c45
                                  try clear c48
                                  try clear c50
                                  try clear c50b0
                                  try clear c50b1
                                  try clear c51
                                  try clear c51b0
                                  try clear c51b1
                                  try clear c52
                                  try clear c52b0
                                  try clear c53
                                  try clear c54
                                  try clear c55
                                  try clear c57
                                  try clear c58
                                  try clear c60
                                  try clear c60b0
                                  try clear c60b1
                                  try clear c61
                                  try clear c61b0
                                  try clear c61b1
                                  try clear c62
                                  try clear c63
                                  try clear c64
                                  try clear p64
                                  try clear c66
                                  try clear c67
                                  try clear c69
                                  try clear c70
                                  try clear c71
                                  try clear c73
                                  try clear c74
                                  try clear c76
                                  try clear c77
                                  try clear c78
                                  try clear c80
                                  try clear c81
                                  try clear c84
                                  try clear c85
                                  try clear c85b0
                                  try clear c85b1
                                  try clear c86
                                  try clear c86b0
                                  try clear c86b1
                                  try clear c87
                                  try clear c88
                                  try clear c89
                                  try clear c92
                                  try clear c93
                                  try clear c94
                                  try clear c97
                                  try clear c98
                                  try clear c99
                                  try clear c102
                                  try clear c103
                                  try clear c104
                                  try clear hcz100_0
                                  try clear hcz100_1
                                  try clear hcz105_0
                                  try clear hcz105_1
                                  try clear hcz24_0
                                  try clear hcz24_1
                                  try clear hcz24_2
                                  try clear hcz24_3
                                  try clear hcz29_0
                                  try clear hcz29_1
                                  try clear hcz30_0
                                  try clear hcz30_1
                                  try clear hcz30_2
                                  try clear hcz30_3
                                  try clear hcz32_0
                                  try clear hcz32_1
                                  try clear hcz32_2
                                  try clear hcz32_3
                                  try clear hcz34_0
                                  try clear hcz34_1
                                  try clear hcz34_2
                                  try clear hcz34_3
                                  try clear hcz36_0
                                  try clear hcz36_1
                                  try clear hcz36_2
                                  try clear hcz36_3
                                  try clear hcz41_0
                                  try clear hcz41_1
                                  try clear hcz46_0
                                  try clear hcz46_1
                                  try clear hcz56_0
                                  try clear hcz56_1
                                  try clear hcz59_0
                                  try clear hcz59_1
                                  try clear hcz65_0
                                  try clear hcz65_1
                                  try clear hcz68_0
                                  try clear hcz68_1
                                  try clear hcz72_0
                                  try clear hcz72_1
                                  try clear hcz75_0
                                  try clear hcz75_1
                                  try clear hcz79_0
                                  try clear hcz79_1
                                  try clear hcz82_0
                                  try clear hcz82_1
                                  try clear hcz90_0
                                  try clear hcz90_1
                                  try clear hcz95_0
                                  try clear hcz95_1
                                  try clear hcz9_0
                                  try clear hcz9_1
                                  try clear hfz100_0
                                  try clear hfz100_1
                                  try clear hfz105_0
                                  try clear hfz105_1
                                  try clear hfz24_0
                                  try clear hfz24_1
                                  try clear hfz24_2
                                  try clear hfz24_3
                                  try clear hfz29_0
                                  try clear hfz29_1
                                  try clear hfz30_0
                                  try clear hfz30_1
                                  try clear hfz30_2
                                  try clear hfz30_3
                                  try clear hfz32_0
                                  try clear hfz32_1
                                  try clear hfz32_2
                                  try clear hfz32_3
                                  try clear hfz34_0
                                  try clear hfz34_1
                                  try clear hfz34_2
                                  try clear hfz34_3
                                  try clear hfz36_0
                                  try clear hfz36_1
                                  try clear hfz36_2
                                  try clear hfz36_3
                                  try clear hfz41_0
                                  try clear hfz41_1
                                  try clear hfz46_0
                                  try clear hfz46_1
                                  try clear hfz56_0
                                  try clear hfz56_1
                                  try clear hfz59_0
                                  try clear hfz59_1
                                  try clear hfz65_0
                                  try clear hfz65_1
                                  try clear hfz68_0
                                  try clear hfz68_1
                                  try clear hfz72_0
                                  try clear hfz72_1
                                  try clear hfz75_0
                                  try clear hfz75_1
                                  try clear hfz79_0
                                  try clear hfz79_1
                                  try clear hfz82_0
                                  try clear hfz82_1
                                  try clear hfz90_0
                                  try clear hfz90_1
                                  try clear hfz95_0
                                  try clear hfz95_1
                                  try clear hfz9_0
                                  try clear hfz9_1
                                  try clear hx145_0
                                  try clear hx145_1
                                  try clear hx145_2
                                  try clear hx145_3
                                  try clear p1
                                  try clear p14
                                  try clear p145
                                  try clear p2
                                  try clear p6
                                  try clear q1
                                  try clear q14
                                  try clear q145
                                  obtain ⟨kq, HA, HJ48, BK144, BK146, BK150, BK155, HB⟩ := hcut
                                  cases kq with
                                  | zero => exact absurd HA.out (by simp [ephemerislaw2_LinkOffsets.j5])
                                  | succ kj48 =>
                                    have H := HA.out
                                    clear HA
                                    simp only [ephemerislaw2_LinkOffsets.j5] at H
                                    have HC107 := Aside0.mk H
                                    clear H
                                    go_upto_if 111 with (fail)
                                    go_cut [5] (fun v5 wc => ∃ (kq : Nat) (x5_106 : Int), v5 = .int .i64 x5_106 ∧ Aside0 (ephemerislaw2_LinkOffsets.j6 kq t143 x5_106 x6_3 x7_3 x31_3 l0 (l0.length : Int) x31_3 t141 t142 (wrap64 (((rd_T40 l0 x31_3).f2.f1) - ((rd_T40 l0 x31_3).f1))) (wrap64 (((rd_T40 l0 x31_3).f2.f0) - ((rd_T40 l0 x31_3).f0))) = some r) ∧ Aside0 (kq ≤ kj48) ∧ Aside0 (wc.heap[gb144]? = some (.cells #[.int .i64 t141, .int .i64 t142] 36 (0, 0))) ∧ Aside0 (wc.heap[gb146]? = some (.cells #[.int .i64 ((rd_T40 l0 x31_3).f0), .int .i64 ((rd_T40 l0 x31_3).f1), .int .i64 ((rd_T40 l0 x31_3).f2.f0), .int .i64 ((rd_T40 l0 x31_3).f2.f1)] 40 (0, 0))) ∧ Aside0 (wc.heap[gb150]? = some (.cells #[.int .i64 t147, .int .i64 t148] 36 (0, 0))) ∧ Aside0 (wc.heap[gb155]? = some (.cells #[.int .i64 (wrap64 (((rd_T40 l0 x31_3).f2.f1) - ((rd_T40 l0 x31_3).f1))), .int .i64 (wrap64 (((rd_T40 l0 x31_3).f2.f0) - ((rd_T40 l0 x31_3).f0)))] 36 (0, 0))) ∧ Aside0 (Below w.heap.size w wc))
                                    case first =>
                                      have H := HC107.out
                                      clear HC107
                                      by_cases c108 : x5_3 = 0
                                      · rw [if_pos c108] at H
                                        have c108b0 : (x5_3 == 0) = true := beq_iff_eq.mpr c108
                                        have c108b1 : (x5_3 != 0) = false := bne_eq_false_iff_eq.mpr c108
                                        clear c108
                                        (first | rw [c108b0] | (simp only [i64_w, i32_w]; rw [c108b0]) | skip)
                                        have H' := Aside0.mk H
                                        clear H
                                        go_wp2
                                        go_meet
                                        case rel => exact ⟨_, (x14_46), (by first | rfl | (simp; done) | (simp [*]; done)), H', ⟨by have := HJ4.out; have := HJ10.out; have := HK3.out; have := HJ20.out; have := HJ46.out; have := HJ48.out; first | omega | exact Nat.le_refl _⟩, ⟨by (with_reducible repeat (first | refine blk_drewN ?_ _ | refine blk_drew ?_ | refine blk_alloc ?_ _)); exact BK144.out⟩, ⟨by (with_reducible repeat (first | refine blk_drewN ?_ _ | refine blk_drew ?_ | refine blk_alloc ?_ _)); exact BK146.out⟩, ⟨by (with_reducible repeat (first | refine blk_drewN ?_ _ | refine blk_drew ?_ | refine blk_alloc ?_ _)); exact BK150.out⟩, ⟨by (with_reducible repeat (first | refine blk_drewN ?_ _ | refine blk_drew ?_ | refine blk_alloc ?_ _)); exact BK155.out⟩, ⟨by repeat (first | (with_reducible first | exact HB.out | apply below_alloc | apply pw_below_drewN | apply below_drew1 | refine below_set ?_ GE144.out | refine below_set ?_ GE146.out | refine below_set ?_ GE150.out | refine below_set ?_ GE155.out) | exact HB.out)⟩⟩
                                      · rw [if_neg c108] at H
                                        have c108b0 : (x5_3 == 0) = false := beq_eq_false_iff_ne.mpr c108
                                        have c108b1 : (x5_3 != 0) = true := bne_iff_ne.mpr c108
                                        (first | rw [c108b0] | (simp only [i64_w, i32_w]; rw [c108b0]) | skip)
                                        have H' := Aside0.mk H
                                        clear H
                                        go_wp2
                                        go_meet
                                        case rel => exact ⟨_, (x5_3), (by first | rfl | (simp; done) | (simp [*]; done)), H', ⟨by have := HJ4.out; have := HJ10.out; have := HK3.out; have := HJ20.out; have := HJ46.out; have := HJ48.out; first | omega | exact Nat.le_refl _⟩, ⟨by (with_reducible repeat (first | refine blk_drewN ?_ _ | refine blk_drew ?_ | refine blk_alloc ?_ _)); exact BK144.out⟩, ⟨by (with_reducible repeat (first | refine blk_drewN ?_ _ | refine blk_drew ?_ | refine blk_alloc ?_ _)); exact BK146.out⟩, ⟨by (with_reducible repeat (first | refine blk_drewN ?_ _ | refine blk_drew ?_ | refine blk_alloc ?_ _)); exact BK150.out⟩, ⟨by (with_reducible repeat (first | refine blk_drewN ?_ _ | refine blk_drew ?_ | refine blk_alloc ?_ _)); exact BK155.out⟩, ⟨by repeat (first | (with_reducible first | exact HB.out | apply below_alloc | apply pw_below_drewN | apply below_drew1 | refine below_set ?_ GE144.out | refine below_set ?_ GE146.out | refine below_set ?_ GE150.out | refine below_set ?_ GE155.out) | exact HB.out)⟩⟩
                                    case rest =>
                                      clear HC107
                                      try clear c1
                                      try clear p1
                                      try clear q1
                                      try clear hx1
                                      try clear c2
                                      try clear p2
                                      try clear c3
                                      try clear c4
                                      try clear c5
                                      try clear c6
                                      try clear p6
                                      try clear c7
                                      try clear c8
                                      try clear c9
                                      try clear c10
                                      try clear c10b0
                                      try clear c10b1
                                      try clear c10b2
                                      try clear c12
                                      try clear c12b0
                                      try clear c12b1
                                      try clear c13
                                      try clear c13b0
                                      try clear c14
                                      try clear c14b0
                                      try clear p14
                                      try clear q14
                                      try clear hx14
                                      try clear c15
                                      try clear c15b0
                                      try clear c20
                                      try clear c20b0
                                      try clear c20b1
                                      try clear c23
                                      try clear c24
                                      try clear c25
                                      try clear c26
                                      try clear c27
                                      try clear c28
                                      try clear c29
                                      try clear c38
                                      try clear c39
                                      try clear c40
                                      try clear c42
                                      try clear c42b0
                                      try clear c42b1
                                      try clear c43
                                      try clear c44
                                      try clear c45
                                      try clear c48
                                      try clear c50
                                      try clear c50b0
                                      try clear c50b1
                                      try clear c51
                                      try clear c51b0
                                      try clear c51b1
                                      try clear c52
                                      try clear c52b0
                                      try clear c53
                                      try clear c54
                                      try clear c55
                                      try clear c57
                                      try clear c58
                                      try clear c60
                                      try clear c60b0
                                      try clear c60b1
                                      try clear c61
                                      try clear c61b0
                                      try clear c61b1
                                      try clear c62
                                      try clear c63
                                      try clear c64
                                      try clear p64
                                      try clear c66
                                      try clear c67
                                      try clear c69
                                      try clear c70
                                      try clear c71
                                      try clear c73
                                      try clear c74
                                      try clear c76
                                      try clear c77
                                      try clear c78
                                      try clear c80
                                      try clear c81
                                      try clear c84
                                      try clear c85
                                      try clear c85b0
                                      try clear c85b1
                                      try clear c86
                                      try clear c86b0
                                      try clear c86b1
                                      try clear c87
                                      try clear c88
                                      try clear c89
                                      try clear c92
                                      try clear c93
                                      try clear c94
                                      try clear c97
                                      try clear c98
                                      try clear c99
                                      try clear c102
                                      try clear c103
                                      try clear c104
                                      try clear c108
                                      try clear c108b0
                                      try clear c108b1
                                      try clear hcz100_0
                                      try clear hcz100_1
                                      try clear hcz105_0
                                      try clear hcz105_1
                                      try clear hcz24_0
                                      try clear hcz24_1
                                      try clear hcz24_2
                                      try clear hcz24_3
                                      try clear hcz29_0
                                      try clear hcz29_1
                                      try clear hcz30_0
                                      try clear hcz30_1
                                      try clear hcz30_2
                                      try clear hcz30_3
                                      try clear hcz32_0
                                      try clear hcz32_1
                                      try clear hcz32_2
                                      try clear hcz32_3
                                      try clear hcz34_0
                                      try clear hcz34_1
                                      try clear hcz34_2
                                      try clear hcz34_3
                                      try clear hcz36_0
                                      try clear hcz36_1
                                      try clear hcz36_2
                                      try clear hcz36_3
                                      try clear hcz41_0
                                      try clear hcz41_1
                                      try clear hcz46_0
                                      try clear hcz46_1
                                      try clear hcz56_0
                                      try clear hcz56_1
                                      try clear hcz59_0
                                      try clear hcz59_1
                                      try clear hcz65_0
                                      try clear hcz65_1
                                      try clear hcz68_0
                                      try clear hcz68_1
                                      try clear hcz72_0
                                      try clear hcz72_1
                                      try clear hcz75_0
                                      try clear hcz75_1
                                      try clear hcz79_0
                                      try clear hcz79_1
                                      try clear hcz82_0
                                      try clear hcz82_1
                                      try clear hcz90_0
                                      try clear hcz90_1
                                      try clear hcz95_0
                                      try clear hcz95_1
                                      try clear hcz9_0
                                      try clear hcz9_1
                                      try clear hfz100_0
                                      try clear hfz100_1
                                      try clear hfz105_0
                                      try clear hfz105_1
                                      try clear hfz24_0
                                      try clear hfz24_1
                                      try clear hfz24_2
                                      try clear hfz24_3
                                      try clear hfz29_0
                                      try clear hfz29_1
                                      try clear hfz30_0
                                      try clear hfz30_1
                                      try clear hfz30_2
                                      try clear hfz30_3
                                      try clear hfz32_0
                                      try clear hfz32_1
                                      try clear hfz32_2
                                      try clear hfz32_3
                                      try clear hfz34_0
                                      try clear hfz34_1
                                      try clear hfz34_2
                                      try clear hfz34_3
                                      try clear hfz36_0
                                      try clear hfz36_1
                                      try clear hfz36_2
                                      try clear hfz36_3
                                      try clear hfz41_0
                                      try clear hfz41_1
                                      try clear hfz46_0
                                      try clear hfz46_1
                                      try clear hfz56_0
                                      try clear hfz56_1
                                      try clear hfz59_0
                                      try clear hfz59_1
                                      try clear hfz65_0
                                      try clear hfz65_1
                                      try clear hfz68_0
                                      try clear hfz68_1
                                      try clear hfz72_0
                                      try clear hfz72_1
                                      try clear hfz75_0
                                      try clear hfz75_1
                                      try clear hfz79_0
                                      try clear hfz79_1
                                      try clear hfz82_0
                                      try clear hfz82_1
                                      try clear hfz90_0
                                      try clear hfz90_1
                                      try clear hfz95_0
                                      try clear hfz95_1
                                      try clear hfz9_0
                                      try clear hfz9_1
                                      try clear hx145_0
                                      try clear hx145_1
                                      try clear hx145_2
                                      try clear hx145_3
                                      try clear p1
                                      try clear p14
                                      try clear p145
                                      try clear p2
                                      try clear p6
                                      try clear p64
                                      try clear q1
                                      try clear q14
                                      try clear q145
                                      obtain ⟨kq, x5_106, rfl, HA, HJ106, BK144, BK146, BK150, BK155, HB⟩ := hcut
                                      cases kq with
                                      | zero => exact absurd HA.out (by simp [ephemerislaw2_LinkOffsets.j6])
                                      | succ kj106 =>
                                        have H := HA.out
                                        clear HA
                                        simp only [ephemerislaw2_LinkOffsets.j6] at H
                                        have HC109 := Aside0.mk H
                                        clear H
                                        go_upto_region 27 with (fail)
                                        go_cut [120] (fun v120 wc => ∃ (kq : Nat) (x120_108 : Bool), v120 = .bool x120_108 ∧ Aside0 (ephemerislaw2_LinkOffsets.j7 kq t143 x5_106 x6_3 x7_3 x31_3 l0 (l0.length : Int) x31_3 x120_108 t141 t142 (wrap64 (((rd_T40 l0 x31_3).f2.f1) - ((rd_T40 l0 x31_3).f1))) (wrap64 (((rd_T40 l0 x31_3).f2.f0) - ((rd_T40 l0 x31_3).f0))) = some r) ∧ Aside0 (kq ≤ kj106) ∧ Aside0 (wc.heap[gb144]? = some (.cells #[.int .i64 t141, .int .i64 t142] 36 (0, 0))) ∧ Aside0 (wc.heap[gb146]? = some (.cells #[.int .i64 ((rd_T40 l0 x31_3).f0), .int .i64 ((rd_T40 l0 x31_3).f1), .int .i64 ((rd_T40 l0 x31_3).f2.f0), .int .i64 ((rd_T40 l0 x31_3).f2.f1)] 40 (0, 0))) ∧ Aside0 (wc.heap[gb150]? = some (.cells #[.int .i64 t147, .int .i64 t148] 36 (0, 0))) ∧ Aside0 (wc.heap[gb155]? = some (.cells #[.int .i64 (wrap64 (((rd_T40 l0 x31_3).f2.f1) - ((rd_T40 l0 x31_3).f1))), .int .i64 (wrap64 (((rd_T40 l0 x31_3).f2.f0) - ((rd_T40 l0 x31_3).f0)))] 36 (0, 0))) ∧ Aside0 (Below w.heap.size w wc))
                                        case first =>
                                          have H := HC109.out
                                          clear HC109
                                          by_cases c110 : x31_3 = 0
                                          · rw [if_pos c110] at H
                                            have c110b0 : (x31_3 == 0) = true := beq_iff_eq.mpr c110
                                            have c110b1 : (x31_3 != 0) = false := bne_eq_false_iff_eq.mpr c110
                                            clear c110
                                            (first | rw [c110b0] | (simp only [i64_w, i32_w]; rw [c110b0]) | skip)
                                            have H' := Aside0.mk H
                                            clear H
                                            go_wp2
                                            go_meet
                                            case rel => exact ⟨_, (true), (by first | rfl | (simp; done) | (simp [*]; done)), H', ⟨by have := HJ4.out; have := HJ10.out; have := HK3.out; have := HJ20.out; have := HJ46.out; have := HJ48.out; have := HJ106.out; first | omega | exact Nat.le_refl _⟩, ⟨by (with_reducible repeat (first | refine blk_drewN ?_ _ | refine blk_drew ?_ | refine blk_alloc ?_ _)); exact BK144.out⟩, ⟨by (with_reducible repeat (first | refine blk_drewN ?_ _ | refine blk_drew ?_ | refine blk_alloc ?_ _)); exact BK146.out⟩, ⟨by (with_reducible repeat (first | refine blk_drewN ?_ _ | refine blk_drew ?_ | refine blk_alloc ?_ _)); exact BK150.out⟩, ⟨by (with_reducible repeat (first | refine blk_drewN ?_ _ | refine blk_drew ?_ | refine blk_alloc ?_ _)); exact BK155.out⟩, ⟨by repeat (first | (with_reducible first | exact HB.out | apply below_alloc | apply pw_below_drewN | apply below_drew1 | refine below_set ?_ GE144.out | refine below_set ?_ GE146.out | refine below_set ?_ GE150.out | refine below_set ?_ GE155.out) | exact HB.out)⟩⟩
                                          · rw [if_neg c110] at H
                                            have c110b0 : (x31_3 == 0) = false := beq_eq_false_iff_ne.mpr c110
                                            have c110b1 : (x31_3 != 0) = true := bne_iff_ne.mpr c110
                                            (first | rw [c110b0] | (simp only [i64_w, i32_w]; rw [c110b0]) | skip)
                                            have H' := Aside0.mk H
                                            clear H
                                            have hnb111 := NB155_144.out
                                            have hnc111 := NB144_155.out
                                            have hnb112 := NB155_146.out
                                            have hnc112 := NB146_155.out
                                            have hnb113 := NB155_150.out
                                            have hnc113 := NB150_155.out
                                            have hcz114_0 : wc.cell? ⟨gb155, 0, none⟩ = some (.int .i64 (wrap64 (((rd_T40 l0 x31_3).f2.f1) - ((rd_T40 l0 x31_3).f1)))) := (blk_cell BK155.out 0).trans rfl
                                            have hcz114_1 : wc.cell? ⟨gb155, 1, none⟩ = some (.int .i64 (wrap64 (((rd_T40 l0 x31_3).f2.f0) - ((rd_T40 l0 x31_3).f0)))) := (blk_cell BK155.out 1).trans rfl
                                            have hfz114_0 := blk_frozen BK155.out 0
                                            have hfz114_1 := blk_frozen BK155.out 1
                                            go_wp2
                                            go_meet
                                            case rel => exact ⟨_, (decide ((wrap64 (((rd_T40 l0 x31_3).f2.f1) - ((rd_T40 l0 x31_3).f1))) > x6_3)), (by first | rfl | (simp; done) | (simp [*]; done)), H', ⟨by have := HJ4.out; have := HJ10.out; have := HK3.out; have := HJ20.out; have := HJ46.out; have := HJ48.out; have := HJ106.out; first | omega | exact Nat.le_refl _⟩, ⟨by (with_reducible repeat (first | refine blk_drewN ?_ _ | refine blk_drew ?_ | refine blk_alloc ?_ _)); exact BK144.out⟩, ⟨by (with_reducible repeat (first | refine blk_drewN ?_ _ | refine blk_drew ?_ | refine blk_alloc ?_ _)); exact BK146.out⟩, ⟨by (with_reducible repeat (first | refine blk_drewN ?_ _ | refine blk_drew ?_ | refine blk_alloc ?_ _)); exact BK150.out⟩, ⟨by (with_reducible repeat (first | refine blk_drewN ?_ _ | refine blk_drew ?_ | refine blk_alloc ?_ _)); exact BK155.out⟩, ⟨by repeat (first | (with_reducible first | exact HB.out | apply below_alloc | apply pw_below_drewN | apply below_drew1 | refine below_set ?_ GE144.out | refine below_set ?_ GE146.out | refine below_set ?_ GE150.out | refine below_set ?_ GE155.out) | exact HB.out)⟩⟩
                                        case rest =>
                                          clear HC109
                                          try clear c1
                                          try clear p1
                                          try clear q1
                                          try clear hx1
                                          try clear c2
                                          try clear p2
                                          try clear c3
                                          try clear c4
                                          try clear c5
                                          try clear c6
                                          try clear p6
                                          try clear c7
                                          try clear c8
                                          try clear c9
                                          try clear c10
                                          try clear c10b0
                                          try clear c10b1
                                          try clear c10b2
                                          try clear c11
                                          try clear c12
                                          try clear c12b0
                                          try clear c12b1
                                          try clear c13
                                          try clear c13b0
                                          try clear c14
                                          try clear c14b0
                                          try clear p14
                                          try clear q14
                                          try clear hx14
                                          try clear c15
                                          try clear c15b0
                                          try clear c20
                                          try clear c20b0
                                          try clear c20b1
                                          try clear c23
                                          try clear c24
                                          try clear c25
                                          try clear c26
                                          try clear c27
                                          try clear c28
                                          try clear c29
                                          try clear c38
                                          try clear c39
                                          try clear c40
                                          try clear c42
                                          try clear c42b0
                                          try clear c42b1
                                          try clear c43
                                          try clear c44
                                          try clear c45
                                          try clear c48
                                          try clear c50
                                          try clear c50b0
                                          try clear c50b1
                                          try clear c51
                                          try clear c51b0
                                          try clear c51b1
                                          try clear c52
                                          try clear c52b0
                                          try clear c53
                                          try clear c54
                                          try clear c55
                                          try clear c57
                                          try clear c58
                                          try clear c60
                                          try clear c60b0
                                          try clear c60b1
                                          try clear c61
                                          try clear c61b0
                                          try clear c61b1
                                          try clear c62
                                          try clear c63
                                          try clear c64
                                          try clear p64
                                          try clear c66
                                          try clear c67
                                          try clear c69
                                          try clear c70
                                          try clear c71
                                          try clear c73
                                          try clear c74
                                          try clear c76
                                          try clear c77
                                          try clear c78
                                          try clear c80
                                          try clear c81
                                          try clear c84
                                          try clear c85
                                          try clear c85b0
                                          try clear c85b1
                                          try clear c86
                                          try clear c86b0
                                          try clear c86b1
                                          try clear c87
                                          try clear c88
                                          try clear c89
                                          try clear c92
                                          try clear c93
                                          try clear c94
                                          try clear c97
                                          try clear c98
                                          try clear c99
                                          try clear c102
                                          try clear c103
                                          try clear c104
                                          try clear c108
                                          try clear c108b0
                                          try clear c108b1
                                          try clear c110
                                          try clear c110b0
                                          try clear c110b1
                                          try clear c111
                                          try clear c112
                                          try clear c113
                                          try clear hcz100_0
                                          try clear hcz100_1
                                          try clear hcz105_0
                                          try clear hcz105_1
                                          try clear hcz114_0
                                          try clear hcz114_1
                                          try clear hcz24_0
                                          try clear hcz24_1
                                          try clear hcz24_2
                                          try clear hcz24_3
                                          try clear hcz29_0
                                          try clear hcz29_1
                                          try clear hcz30_0
                                          try clear hcz30_1
                                          try clear hcz30_2
                                          try clear hcz30_3
                                          try clear hcz32_0
                                          try clear hcz32_1
                                          try clear hcz32_2
                                          try clear hcz32_3
                                          try clear hcz34_0
                                          try clear hcz34_1
                                          try clear hcz34_2
                                          try clear hcz34_3
                                          try clear hcz36_0
                                          try clear hcz36_1
                                          try clear hcz36_2
                                          try clear hcz36_3
                                          try clear hcz41_0
                                          try clear hcz41_1
                                          try clear hcz46_0
                                          try clear hcz46_1
                                          try clear hcz56_0
                                          try clear hcz56_1
                                          try clear hcz59_0
                                          try clear hcz59_1
                                          try clear hcz65_0
                                          try clear hcz65_1
                                          try clear hcz68_0
                                          try clear hcz68_1
                                          try clear hcz72_0
                                          try clear hcz72_1
                                          try clear hcz75_0
                                          try clear hcz75_1
                                          try clear hcz79_0
                                          try clear hcz79_1
                                          try clear hcz82_0
                                          try clear hcz82_1
                                          try clear hcz90_0
                                          try clear hcz90_1
                                          try clear hcz95_0
                                          try clear hcz95_1
                                          try clear hcz9_0
                                          try clear hcz9_1
                                          try clear hfz100_0
                                          try clear hfz100_1
                                          try clear hfz105_0
                                          try clear hfz105_1
                                          try clear hfz114_0
                                          try clear hfz114_1
                                          try clear hfz24_0
                                          try clear hfz24_1
                                          try clear hfz24_2
                                          try clear hfz24_3
                                          try clear hfz29_0
                                          try clear hfz29_1
                                          try clear hfz30_0
                                          try clear hfz30_1
                                          try clear hfz30_2
                                          try clear hfz30_3
                                          try clear hfz32_0
                                          try clear hfz32_1
                                          try clear hfz32_2
                                          try clear hfz32_3
                                          try clear hfz34_0
                                          try clear hfz34_1
                                          try clear hfz34_2
                                          try clear hfz34_3
                                          try clear hfz36_0
                                          try clear hfz36_1
                                          try clear hfz36_2
                                          try clear hfz36_3
                                          try clear hfz41_0
                                          try clear hfz41_1
                                          try clear hfz46_0
                                          try clear hfz46_1
                                          try clear hfz56_0
                                          try clear hfz56_1
                                          try clear hfz59_0
                                          try clear hfz59_1
                                          try clear hfz65_0
                                          try clear hfz65_1
                                          try clear hfz68_0
                                          try clear hfz68_1
                                          try clear hfz72_0
                                          try clear hfz72_1
                                          try clear hfz75_0
                                          try clear hfz75_1
                                          try clear hfz79_0
                                          try clear hfz79_1
                                          try clear hfz82_0
                                          try clear hfz82_1
                                          try clear hfz90_0
                                          try clear hfz90_1
                                          try clear hfz95_0
                                          try clear hfz95_1
                                          try clear hfz9_0
                                          try clear hfz9_1
                                          try clear hx145_0
                                          try clear hx145_1
                                          try clear hx145_2
                                          try clear hx145_3
                                          try clear p1
                                          try clear p14
                                          try clear p145
                                          try clear p2
                                          try clear p6
                                          try clear p64
                                          try clear q1
                                          try clear q14
                                          try clear q145
                                          obtain ⟨kq, x120_108, rfl, HA, HJ108, BK144, BK146, BK150, BK155, HB⟩ := hcut
                                          cases kq with
                                          | zero => exact absurd HA.out (by simp [ephemerislaw2_LinkOffsets.j7])
                                          | succ kj108 =>
                                            have H := HA.out
                                            clear HA
                                            simp only [ephemerislaw2_LinkOffsets.j7] at H
                                            by_cases c115 : x120_108 = true
                                            · subst c115
                                              have H1 : (if x31_3 = 0 then (ephemerislaw2_LinkOffsets.l0 kj108 t143 x5_106 (wrap64 (((rd_T40 l0 x31_3).f2.f1) - ((rd_T40 l0 x31_3).f1))) (wrap64 (((rd_T40 l0 x31_3).f2.f0) - ((rd_T40 l0 x31_3).f0))) l0 (l0.length : Int) (wrap64 (x31_3 + 1)) t141 t142) else (if (wrap64 (((rd_T40 l0 x31_3).f2.f0) - ((rd_T40 l0 x31_3).f0))) < x7_3 then (ephemerislaw2_LinkOffsets.l0 kj108 t143 x5_106 (wrap64 (((rd_T40 l0 x31_3).f2.f1) - ((rd_T40 l0 x31_3).f1))) (wrap64 (((rd_T40 l0 x31_3).f2.f0) - ((rd_T40 l0 x31_3).f0))) l0 (l0.length : Int) (wrap64 (x31_3 + 1)) t141 t142) else (ephemerislaw2_LinkOffsets.l0 kj108 t143 x5_106 (wrap64 (((rd_T40 l0 x31_3).f2.f1) - ((rd_T40 l0 x31_3).f1))) x7_3 l0 (l0.length : Int) (wrap64 (x31_3 + 1)) t141 t142))) = some r := by rw [if_pos rfl] at H; exact H
                                              clear H
                                              have H := H1
                                              clear H1
                                              by_cases c116 : x31_3 = 0
                                              · rw [if_pos c116] at H
                                                have c116b0 : (x31_3 == 0) = true := beq_iff_eq.mpr c116
                                                have c116b1 : (x31_3 != 0) = false := bne_eq_false_iff_eq.mpr c116
                                                clear c116
                                                have H' := Aside0.mk H
                                                clear H
                                                have hnb117 := NB155_144.out
                                                have hnc117 := NB144_155.out
                                                have hnb118 := NB155_146.out
                                                have hnc118 := NB146_155.out
                                                have hnb119 := NB155_150.out
                                                have hnc119 := NB150_155.out
                                                have hcz120_0 : wc.cell? ⟨gb155, 0, none⟩ = some (.int .i64 (wrap64 (((rd_T40 l0 x31_3).f2.f1) - ((rd_T40 l0 x31_3).f1)))) := (blk_cell BK155.out 0).trans rfl
                                                have hcz120_1 : wc.cell? ⟨gb155, 1, none⟩ = some (.int .i64 (wrap64 (((rd_T40 l0 x31_3).f2.f0) - ((rd_T40 l0 x31_3).f0)))) := (blk_cell BK155.out 1).trans rfl
                                                have hfz120_0 := blk_frozen BK155.out 0
                                                have hfz120_1 := blk_frozen BK155.out 1
                                                go_wp2
                                                go_roundg kj108
                                                case measure => have := HJ4.out; have := HJ10.out; have := HK3.out; have := HJ20.out; have := HJ46.out; have := HJ48.out; have := HJ106.out; have := HJ108.out; omega
                                                case rel => exact ⟨(x5_106), ((wrap64 (((rd_T40 l0 x31_3).f2.f1) - ((rd_T40 l0 x31_3).f1)))), ((wrap64 (((rd_T40 l0 x31_3).f2.f0) - ((rd_T40 l0 x31_3).f0)))), (wrap64 (x31_3 + 1)), (by first | rfl | (simp; done) | (simp [*]; done)), (by first | rfl | (simp; done) | (simp [*]; done)), (by first | rfl | (simp; done) | (simp [*]; done)), (by first | rfl | (simp; done) | (simp [*]; done)), H', ⟨by have := HJ4.out; have := HJ10.out; have := HK3.out; have := HJ20.out; have := HJ46.out; have := HJ48.out; have := HJ106.out; have := HJ108.out; omega⟩, ⟨by (with_reducible repeat (first | refine blk_drewN ?_ _ | refine blk_drew ?_ | refine blk_alloc ?_ _)); exact BK144.out⟩, ⟨by repeat (first | (with_reducible first | exact HB.out | apply below_alloc | apply pw_below_drewN | apply below_drew1 | refine below_set ?_ GE144.out | refine below_set ?_ GE146.out | refine below_set ?_ GE150.out | refine below_set ?_ GE155.out) | exact HB.out)⟩⟩
                                              · rw [if_neg c116] at H
                                                have c116b0 : (x31_3 == 0) = false := beq_eq_false_iff_ne.mpr c116
                                                have c116b1 : (x31_3 != 0) = true := bne_iff_ne.mpr c116
                                                by_cases c121 : (wrap64 (((rd_T40 l0 x31_3).f2.f0) - ((rd_T40 l0 x31_3).f0))) < x7_3
                                                · rw [if_pos c121] at H
                                                  have c121b0 : decide ((wrap64 (((rd_T40 l0 x31_3).f2.f0) - ((rd_T40 l0 x31_3).f0))) < x7_3) = true := decide_eq_true c121
                                                  clear c121
                                                  have H' := Aside0.mk H
                                                  clear H
                                                  have hnb122 := NB155_144.out
                                                  have hnc122 := NB144_155.out
                                                  have hnb123 := NB155_146.out
                                                  have hnc123 := NB146_155.out
                                                  have hnb124 := NB155_150.out
                                                  have hnc124 := NB150_155.out
                                                  have hcz125_0 : wc.cell? ⟨gb155, 0, none⟩ = some (.int .i64 (wrap64 (((rd_T40 l0 x31_3).f2.f1) - ((rd_T40 l0 x31_3).f1)))) := (blk_cell BK155.out 0).trans rfl
                                                  have hcz125_1 : wc.cell? ⟨gb155, 1, none⟩ = some (.int .i64 (wrap64 (((rd_T40 l0 x31_3).f2.f0) - ((rd_T40 l0 x31_3).f0)))) := (blk_cell BK155.out 1).trans rfl
                                                  have hfz125_0 := blk_frozen BK155.out 0
                                                  have hfz125_1 := blk_frozen BK155.out 1
                                                  go_wp2
                                                  go_roundg kj108
                                                  case measure => have := HJ4.out; have := HJ10.out; have := HK3.out; have := HJ20.out; have := HJ46.out; have := HJ48.out; have := HJ106.out; have := HJ108.out; omega
                                                  case rel => exact ⟨(x5_106), ((wrap64 (((rd_T40 l0 x31_3).f2.f1) - ((rd_T40 l0 x31_3).f1)))), ((wrap64 (((rd_T40 l0 x31_3).f2.f0) - ((rd_T40 l0 x31_3).f0)))), (wrap64 (x31_3 + 1)), (by first | rfl | (simp; done) | (simp [*]; done)), (by first | rfl | (simp; done) | (simp [*]; done)), (by first | rfl | (simp; done) | (simp [*]; done)), (by first | rfl | (simp; done) | (simp [*]; done)), H', ⟨by have := HJ4.out; have := HJ10.out; have := HK3.out; have := HJ20.out; have := HJ46.out; have := HJ48.out; have := HJ106.out; have := HJ108.out; omega⟩, ⟨by (with_reducible repeat (first | refine blk_drewN ?_ _ | refine blk_drew ?_ | refine blk_alloc ?_ _)); exact BK144.out⟩, ⟨by repeat (first | (with_reducible first | exact HB.out | apply below_alloc | apply pw_below_drewN | apply below_drew1 | refine below_set ?_ GE144.out | refine below_set ?_ GE146.out | refine below_set ?_ GE150.out | refine below_set ?_ GE155.out) | exact HB.out)⟩⟩
                                                · rw [if_neg c121] at H
                                                  have c121b0 : decide ((wrap64 (((rd_T40 l0 x31_3).f2.f0) - ((rd_T40 l0 x31_3).f0))) < x7_3) = false := decide_eq_false c121
                                                  clear c121
                                                  have H' := Aside0.mk H
                                                  clear H
                                                  have hnb126 := NB155_144.out
                                                  have hnc126 := NB144_155.out
                                                  have hnb127 := NB155_146.out
                                                  have hnc127 := NB146_155.out
                                                  have hnb128 := NB155_150.out
                                                  have hnc128 := NB150_155.out
                                                  have hcz129_0 : wc.cell? ⟨gb155, 0, none⟩ = some (.int .i64 (wrap64 (((rd_T40 l0 x31_3).f2.f1) - ((rd_T40 l0 x31_3).f1)))) := (blk_cell BK155.out 0).trans rfl
                                                  have hcz129_1 : wc.cell? ⟨gb155, 1, none⟩ = some (.int .i64 (wrap64 (((rd_T40 l0 x31_3).f2.f0) - ((rd_T40 l0 x31_3).f0)))) := (blk_cell BK155.out 1).trans rfl
                                                  have hfz129_0 := blk_frozen BK155.out 0
                                                  have hfz129_1 := blk_frozen BK155.out 1
                                                  go_wp2
                                                  go_roundg kj108
                                                  case measure => have := HJ4.out; have := HJ10.out; have := HK3.out; have := HJ20.out; have := HJ46.out; have := HJ48.out; have := HJ106.out; have := HJ108.out; omega
                                                  case rel => exact ⟨(x5_106), ((wrap64 (((rd_T40 l0 x31_3).f2.f1) - ((rd_T40 l0 x31_3).f1)))), (x7_3), (wrap64 (x31_3 + 1)), (by first | rfl | (simp; done) | (simp [*]; done)), (by first | rfl | (simp; done) | (simp [*]; done)), (by first | rfl | (simp; done) | (simp [*]; done)), (by first | rfl | (simp; done) | (simp [*]; done)), H', ⟨by have := HJ4.out; have := HJ10.out; have := HK3.out; have := HJ20.out; have := HJ46.out; have := HJ48.out; have := HJ106.out; have := HJ108.out; omega⟩, ⟨by (with_reducible repeat (first | refine blk_drewN ?_ _ | refine blk_drew ?_ | refine blk_alloc ?_ _)); exact BK144.out⟩, ⟨by repeat (first | (with_reducible first | exact HB.out | apply below_alloc | apply pw_below_drewN | apply below_drew1 | refine below_set ?_ GE144.out | refine below_set ?_ GE146.out | refine below_set ?_ GE150.out | refine below_set ?_ GE155.out) | exact HB.out)⟩⟩
                                            · replace c115 := Bool.eq_false_iff.mpr c115
                                              subst c115
                                              have H1 : (if x31_3 = 0 then (ephemerislaw2_LinkOffsets.l0 kj108 t143 x5_106 x6_3 (wrap64 (((rd_T40 l0 x31_3).f2.f0) - ((rd_T40 l0 x31_3).f0))) l0 (l0.length : Int) (wrap64 (x31_3 + 1)) t141 t142) else (if (wrap64 (((rd_T40 l0 x31_3).f2.f0) - ((rd_T40 l0 x31_3).f0))) < x7_3 then (ephemerislaw2_LinkOffsets.l0 kj108 t143 x5_106 x6_3 (wrap64 (((rd_T40 l0 x31_3).f2.f0) - ((rd_T40 l0 x31_3).f0))) l0 (l0.length : Int) (wrap64 (x31_3 + 1)) t141 t142) else (ephemerislaw2_LinkOffsets.l0 kj108 t143 x5_106 x6_3 x7_3 l0 (l0.length : Int) (wrap64 (x31_3 + 1)) t141 t142))) = some r := by rw [if_neg (show ¬ (false = true) by decide)] at H; exact H
                                              clear H
                                              have H := H1
                                              clear H1
                                              by_cases c130 : x31_3 = 0
                                              · rw [if_pos c130] at H
                                                have c130b0 : (x31_3 == 0) = true := beq_iff_eq.mpr c130
                                                have c130b1 : (x31_3 != 0) = false := bne_eq_false_iff_eq.mpr c130
                                                clear c130
                                                have H' := Aside0.mk H
                                                clear H
                                                have hnb131 := NB155_144.out
                                                have hnc131 := NB144_155.out
                                                have hnb132 := NB155_146.out
                                                have hnc132 := NB146_155.out
                                                have hnb133 := NB155_150.out
                                                have hnc133 := NB150_155.out
                                                have hcz134_0 : wc.cell? ⟨gb155, 0, none⟩ = some (.int .i64 (wrap64 (((rd_T40 l0 x31_3).f2.f1) - ((rd_T40 l0 x31_3).f1)))) := (blk_cell BK155.out 0).trans rfl
                                                have hcz134_1 : wc.cell? ⟨gb155, 1, none⟩ = some (.int .i64 (wrap64 (((rd_T40 l0 x31_3).f2.f0) - ((rd_T40 l0 x31_3).f0)))) := (blk_cell BK155.out 1).trans rfl
                                                have hfz134_0 := blk_frozen BK155.out 0
                                                have hfz134_1 := blk_frozen BK155.out 1
                                                go_wp2
                                                go_roundg kj108
                                                case measure => have := HJ4.out; have := HJ10.out; have := HK3.out; have := HJ20.out; have := HJ46.out; have := HJ48.out; have := HJ106.out; have := HJ108.out; omega
                                                case rel => exact ⟨(x5_106), (x6_3), ((wrap64 (((rd_T40 l0 x31_3).f2.f0) - ((rd_T40 l0 x31_3).f0)))), (wrap64 (x31_3 + 1)), (by first | rfl | (simp; done) | (simp [*]; done)), (by first | rfl | (simp; done) | (simp [*]; done)), (by first | rfl | (simp; done) | (simp [*]; done)), (by first | rfl | (simp; done) | (simp [*]; done)), H', ⟨by have := HJ4.out; have := HJ10.out; have := HK3.out; have := HJ20.out; have := HJ46.out; have := HJ48.out; have := HJ106.out; have := HJ108.out; omega⟩, ⟨by (with_reducible repeat (first | refine blk_drewN ?_ _ | refine blk_drew ?_ | refine blk_alloc ?_ _)); exact BK144.out⟩, ⟨by repeat (first | (with_reducible first | exact HB.out | apply below_alloc | apply pw_below_drewN | apply below_drew1 | refine below_set ?_ GE144.out | refine below_set ?_ GE146.out | refine below_set ?_ GE150.out | refine below_set ?_ GE155.out) | exact HB.out)⟩⟩
                                              · rw [if_neg c130] at H
                                                have c130b0 : (x31_3 == 0) = false := beq_eq_false_iff_ne.mpr c130
                                                have c130b1 : (x31_3 != 0) = true := bne_iff_ne.mpr c130
                                                by_cases c135 : (wrap64 (((rd_T40 l0 x31_3).f2.f0) - ((rd_T40 l0 x31_3).f0))) < x7_3
                                                · rw [if_pos c135] at H
                                                  have c135b0 : decide ((wrap64 (((rd_T40 l0 x31_3).f2.f0) - ((rd_T40 l0 x31_3).f0))) < x7_3) = true := decide_eq_true c135
                                                  clear c135
                                                  have H' := Aside0.mk H
                                                  clear H
                                                  have hnb136 := NB155_144.out
                                                  have hnc136 := NB144_155.out
                                                  have hnb137 := NB155_146.out
                                                  have hnc137 := NB146_155.out
                                                  have hnb138 := NB155_150.out
                                                  have hnc138 := NB150_155.out
                                                  have hcz139_0 : wc.cell? ⟨gb155, 0, none⟩ = some (.int .i64 (wrap64 (((rd_T40 l0 x31_3).f2.f1) - ((rd_T40 l0 x31_3).f1)))) := (blk_cell BK155.out 0).trans rfl
                                                  have hcz139_1 : wc.cell? ⟨gb155, 1, none⟩ = some (.int .i64 (wrap64 (((rd_T40 l0 x31_3).f2.f0) - ((rd_T40 l0 x31_3).f0)))) := (blk_cell BK155.out 1).trans rfl
                                                  have hfz139_0 := blk_frozen BK155.out 0
                                                  have hfz139_1 := blk_frozen BK155.out 1
                                                  go_wp2
                                                  go_roundg kj108
                                                  case measure => have := HJ4.out; have := HJ10.out; have := HK3.out; have := HJ20.out; have := HJ46.out; have := HJ48.out; have := HJ106.out; have := HJ108.out; omega
                                                  case rel => exact ⟨(x5_106), (x6_3), ((wrap64 (((rd_T40 l0 x31_3).f2.f0) - ((rd_T40 l0 x31_3).f0)))), (wrap64 (x31_3 + 1)), (by first | rfl | (simp; done) | (simp [*]; done)), (by first | rfl | (simp; done) | (simp [*]; done)), (by first | rfl | (simp; done) | (simp [*]; done)), (by first | rfl | (simp; done) | (simp [*]; done)), H', ⟨by have := HJ4.out; have := HJ10.out; have := HK3.out; have := HJ20.out; have := HJ46.out; have := HJ48.out; have := HJ106.out; have := HJ108.out; omega⟩, ⟨by (with_reducible repeat (first | refine blk_drewN ?_ _ | refine blk_drew ?_ | refine blk_alloc ?_ _)); exact BK144.out⟩, ⟨by repeat (first | (with_reducible first | exact HB.out | apply below_alloc | apply pw_below_drewN | apply below_drew1 | refine below_set ?_ GE144.out | refine below_set ?_ GE146.out | refine below_set ?_ GE150.out | refine below_set ?_ GE155.out) | exact HB.out)⟩⟩
                                                · rw [if_neg c135] at H
                                                  have c135b0 : decide ((wrap64 (((rd_T40 l0 x31_3).f2.f0) - ((rd_T40 l0 x31_3).f0))) < x7_3) = false := decide_eq_false c135
                                                  clear c135
                                                  have H' := Aside0.mk H
                                                  clear H
                                                  have hnb140 := NB155_144.out
                                                  have hnc140 := NB144_155.out
                                                  have hnb141 := NB155_146.out
                                                  have hnc141 := NB146_155.out
                                                  have hnb142 := NB155_150.out
                                                  have hnc142 := NB150_155.out
                                                  have hcz143_0 : wc.cell? ⟨gb155, 0, none⟩ = some (.int .i64 (wrap64 (((rd_T40 l0 x31_3).f2.f1) - ((rd_T40 l0 x31_3).f1)))) := (blk_cell BK155.out 0).trans rfl
                                                  have hcz143_1 : wc.cell? ⟨gb155, 1, none⟩ = some (.int .i64 (wrap64 (((rd_T40 l0 x31_3).f2.f0) - ((rd_T40 l0 x31_3).f0)))) := (blk_cell BK155.out 1).trans rfl
                                                  have hfz143_0 := blk_frozen BK155.out 0
                                                  have hfz143_1 := blk_frozen BK155.out 1
                                                  go_wp2
                                                  go_roundg kj108
                                                  case measure => have := HJ4.out; have := HJ10.out; have := HK3.out; have := HJ20.out; have := HJ46.out; have := HJ48.out; have := HJ106.out; have := HJ108.out; omega
                                                  case rel => exact ⟨(x5_106), (x6_3), (x7_3), (wrap64 (x31_3 + 1)), (by first | rfl | (simp; done) | (simp [*]; done)), (by first | rfl | (simp; done) | (simp [*]; done)), (by first | rfl | (simp; done) | (simp [*]; done)), (by first | rfl | (simp; done) | (simp [*]; done)), H', ⟨by have := HJ4.out; have := HJ10.out; have := HK3.out; have := HJ20.out; have := HJ46.out; have := HJ48.out; have := HJ106.out; have := HJ108.out; omega⟩, ⟨by (with_reducible repeat (first | refine blk_drewN ?_ _ | refine blk_drew ?_ | refine blk_alloc ?_ _)); exact BK144.out⟩, ⟨by repeat (first | (with_reducible first | exact HB.out | apply below_alloc | apply pw_below_drewN | apply below_drew1 | refine below_set ?_ GE144.out | refine below_set ?_ GE146.out | refine below_set ?_ GE150.out | refine below_set ?_ GE155.out) | exact HB.out)⟩⟩
                      · rw [if_neg c20] at H
                        have c20b0 : (t154 == t153) = false := beq_eq_false_iff_ne.mpr c20
                        have c20b1 : (t154 != t153) = true := bne_iff_ne.mpr c20
                        obtain rfl := Option.some.inj H
                        have p145 : 0 ≤ (x31_3 : Int) := of_decide_eq_true (by first | (with_reducible assumption) | assumption)
                        have q145 : x31_3 < (l0.length : Int) := of_decide_eq_true (by first | (with_reducible assumption) | assumption)
                        obtain ⟨ad145, e145, hx145_0, hx145_1, hx145_2, hx145_3⟩ := at_T40 HR0.out x31_3 p145 q145
                        cases e145
                        replace hx145_0 := (HB.out.cell (World.block_lt_of_cell? w _ hx145_0)).trans hx145_0
                        replace hx145_1 := (HB.out.cell (World.block_lt_of_cell? w _ hx145_1)).trans hx145_1
                        replace hx145_2 := (HB.out.cell (World.block_lt_of_cell? w _ hx145_2)).trans hx145_2
                        replace hx145_3 := (HB.out.cell (World.block_lt_of_cell? w _ hx145_3)).trans hx145_3
                        replace p145 := eq_true p145
                        replace q145 := eq_true q145
                        go_wp2_with (first | ((with_reducible refine gate_dst (N := 9) rfl ?_); refine box_event ?hg (N := 9) ?hd (cs := #[.int .i64 0, .int .i64 0, .int .i64 0, .int .i64 0]) (t := 40) ?hr ?_; (case hd => rfl); (case hg => rfl); (case hr => first | (go_simp; done) | (go_simp; rfl)); intro gb146 hg w144 hbox hb; have n0_ := Aside0.mk (blk_below (g := gb144) (o := .cells #[.int .i64 t141, .int .i64 t142] 36 (0, 0)) (by (with_reducible repeat (first | refine blk_drewN ?_ _ | refine blk_drew ?_ | refine blk_alloc ?_ _)); exact BK144.out) hb); have n1_ := Aside0.mk (below_step (by repeat (first | (with_reducible first | exact HB.out | apply below_alloc | apply pw_below_drewN | apply below_drew1 | refine below_set ?_ GE144.out) | exact HB.out)) hb); have n2_ := Aside0.mk (hbox); have n3_ := Aside0.mk ((by rw [hg]; exact (below_size (by repeat (first | (with_reducible first | exact HB.out | apply below_alloc | apply pw_below_drewN | apply below_drew1 | refine below_set ?_ GE144.out) | exact HB.out))) : w.heap.size ≤ gb146)); have n4_ := Aside0.mk ((by rw [hg]; exact (below_size (by repeat (first | (with_reducible first | exact HB.out | apply below_alloc | apply pw_below_drewN | apply below_drew1 | refine below_set ?_ GE144.out) | exact HB.out))) : w.heap.size ≤ gb146)); have n5_ := Aside0.mk ((by rw [hg]; exact Nat.ne_of_lt (blk_lt (g := gb144) (o := .cells #[.int .i64 t141, .int .i64 t142] 36 (0, 0)) (by (with_reducible repeat (first | refine blk_drewN ?_ _ | refine blk_drew ?_ | refine blk_alloc ?_ _)); exact BK144.out)) : gb144 ≠ gb146)); have n6_ := Aside0.mk ((by rw [hg]; exact Nat.ne_of_gt (blk_lt (g := gb144) (o := .cells #[.int .i64 t141, .int .i64 t142] 36 (0, 0)) (by (with_reducible repeat (first | refine blk_drewN ?_ _ | refine blk_drew ?_ | refine blk_alloc ?_ _)); exact BK144.out)) : gb146 ≠ gb144)); clear BK144; clear HB; have BK144 := n0_; have HB := n1_; have BK146 := n2_; have GW146 := n3_; have GE146 := n4_; have NB144_146 := n5_; have NB146_144 := n6_; clear n0_ n1_ n2_ n3_ n4_ n5_ n6_; clear hb hbox hg; have hnb145 := NB146_144.out; have hnc145 := NB144_146.out; have hcz146_0 : w144.cell? ⟨gb146, 0, none⟩ = some (.int .i64 0) := (blk_cell BK146.out 0).trans rfl; have hcz146_1 : w144.cell? ⟨gb146, 1, none⟩ = some (.int .i64 0) := (blk_cell BK146.out 1).trans rfl; have hcz146_2 : w144.cell? ⟨gb146, 2, none⟩ = some (.int .i64 0) := (blk_cell BK146.out 2).trans rfl; have hcz146_3 : w144.cell? ⟨gb146, 3, none⟩ = some (.int .i64 0) := (blk_cell BK146.out 3).trans rfl; have hfz146_0 := blk_frozen BK146.out 0; have hfz146_1 := blk_frozen BK146.out 1; have hfz146_2 := blk_frozen BK146.out 2; have hfz146_3 := blk_frozen BK146.out 3) | ((with_reducible refine gate_callee (f := 25) rfl ?_); refine goesL_ (some 38) rfl rfl Try.func25 (by kernel_rfl) rfl #[.agg #[.int .i64 ((rd_T40 l0 x31_3).f0), .int .i64 ((rd_T40 l0 x31_3).f1), .int .i64 ((rd_T40 l0 x31_3).f2.f0), .int .i64 ((rd_T40 l0 x31_3).f2.f1)]] rfl (by (try simp only [List.map_toArray, List.map_cons, List.map_nil]); first | done | rfl | (simp only [List.length_drop, List.length_take]; rfl)) ?_; (with_reducible refine (link_Offset.calls k3 ((rd_T40 l0 x31_3).f0) ((rd_T40 l0 x31_3).f1) ((rd_T40 l0 x31_3).f2.f0) ((rd_T40 l0 x31_3).f2.f1) t147 t148 t149 _ A16.out).mono ?_); rintro e w147 ⟨rfl, hb⟩; refine ⟨_, rfl, ?_⟩; have n0_ := Aside0.mk (blk_below (g := gb144) (o := .cells #[.int .i64 t141, .int .i64 t142] 36 (0, 0)) (by (with_reducible repeat (first | refine blk_drewN ?_ _ | refine blk_drew ?_ | refine blk_alloc ?_ _)); refine blk_far ?_ NB144_146.out _; (with_reducible repeat (first | refine blk_drewN ?_ _ | refine blk_drew ?_ | refine blk_alloc ?_ _)); refine blk_far ?_ NB144_146.out _; (with_reducible repeat (first | refine blk_drewN ?_ _ | refine blk_drew ?_ | refine blk_alloc ?_ _)); refine blk_far ?_ NB144_146.out _; (with_reducible repeat (first | refine blk_drewN ?_ _ | refine blk_drew ?_ | refine blk_alloc ?_ _)); refine blk_far ?_ NB144_146.out _; (with_reducible repeat (first | refine blk_drewN ?_ _ | refine blk_drew ?_ | refine blk_alloc ?_ _)); exact BK144.out) hb); have n1_ := Aside0.mk (blk_below (g := gb146) (o := .cells #[.int .i64 ((rd_T40 l0 x31_3).f0), .int .i64 ((rd_T40 l0 x31_3).f1), .int .i64 ((rd_T40 l0 x31_3).f2.f0), .int .i64 ((rd_T40 l0 x31_3).f2.f1)] 40 (0, 0)) (by (with_reducible repeat (first | refine blk_drewN ?_ _ | refine blk_drew ?_ | refine blk_alloc ?_ _)); refine blk_put (cs := #[.int .i64 ((rd_T40 l0 x31_3).f0), .int .i64 ((rd_T40 l0 x31_3).f1), .int .i64 ((rd_T40 l0 x31_3).f2.f0), .int .i64 0]) ?_ 3 _ rfl; (with_reducible repeat (first | refine blk_drewN ?_ _ | refine blk_drew ?_ | refine blk_alloc ?_ _)); refine blk_put (cs := #[.int .i64 ((rd_T40 l0 x31_3).f0), .int .i64 ((rd_T40 l0 x31_3).f1), .int .i64 0, .int .i64 0]) ?_ 2 _ rfl; (with_reducible repeat (first | refine blk_drewN ?_ _ | refine blk_drew ?_ | refine blk_alloc ?_ _)); refine blk_put (cs := #[.int .i64 ((rd_T40 l0 x31_3).f0), .int .i64 0, .int .i64 0, .int .i64 0]) ?_ 1 _ rfl; (with_reducible repeat (first | refine blk_drewN ?_ _ | refine blk_drew ?_ | refine blk_alloc ?_ _)); refine blk_put (cs := #[.int .i64 0, .int .i64 0, .int .i64 0, .int .i64 0]) ?_ 0 _ rfl; (with_reducible repeat (first | refine blk_drewN ?_ _ | refine blk_drew ?_ | refine blk_alloc ?_ _)); exact BK146.out) hb); have n2_ := Aside0.mk (below_step (by repeat (first | (with_reducible first | exact HB.out | apply below_alloc | apply pw_below_drewN | apply below_drew1 | refine below_set ?_ GE144.out | refine below_set ?_ GE146.out) | exact HB.out)) hb); clear BK144; clear BK146; clear HB; have BK144 := n0_; have BK146 := n1_; have HB := n2_; clear n0_ n1_ n2_; (try clear hb); (try clear hb2); (try clear hk); (try clear hi)) | ((with_reducible refine gate_dst (N := 10) rfl ?_); refine box_event ?hg (N := 10) ?hd (cs := #[.int .i64 0, .int .i64 0]) (t := 36) ?hr ?_; (case hd => rfl); (case hg => rfl); (case hr => first | (go_simp; done) | (go_simp; rfl)); intro gb150 hg w148 hbox hb; have n0_ := Aside0.mk (blk_below (g := gb144) (o := .cells #[.int .i64 t141, .int .i64 t142] 36 (0, 0)) (by (with_reducible repeat (first | refine blk_drewN ?_ _ | refine blk_drew ?_ | refine blk_alloc ?_ _)); exact BK144.out) hb); have n1_ := Aside0.mk (blk_below (g := gb146) (o := .cells #[.int .i64 ((rd_T40 l0 x31_3).f0), .int .i64 ((rd_T40 l0 x31_3).f1), .int .i64 ((rd_T40 l0 x31_3).f2.f0), .int .i64 ((rd_T40 l0 x31_3).f2.f1)] 40 (0, 0)) (by (with_reducible repeat (first | refine blk_drewN ?_ _ | refine blk_drew ?_ | refine blk_alloc ?_ _)); exact BK146.out) hb); have n2_ := Aside0.mk (below_step (by repeat (first | (with_reducible first | exact HB.out | apply below_alloc | apply pw_below_drewN | apply below_drew1 | refine below_set ?_ GE144.out | refine below_set ?_ GE146.out) | exact HB.out)) hb); have n3_ := Aside0.mk (hbox); have n4_ := Aside0.mk ((by rw [hg]; exact (below_size (by repeat (first | (with_reducible first | exact HB.out | apply below_alloc | apply pw_below_drewN | apply below_drew1 | refine below_set ?_ GE144.out | refine below_set ?_ GE146.out) | exact HB.out))) : w.heap.size ≤ gb150)); have n5_ := Aside0.mk ((by rw [hg]; exact (below_size (by repeat (first | (with_reducible first | exact HB.out | apply below_alloc | apply pw_below_drewN | apply below_drew1 | refine below_set ?_ GE144.out | refine below_set ?_ GE146.out) | exact HB.out))) : w.heap.size ≤ gb150)); have n6_ := Aside0.mk ((by rw [hg]; exact Nat.ne_of_lt (blk_lt (g := gb144) (o := .cells #[.int .i64 t141, .int .i64 t142] 36 (0, 0)) (by (with_reducible repeat (first | refine blk_drewN ?_ _ | refine blk_drew ?_ | refine blk_alloc ?_ _)); exact BK144.out)) : gb144 ≠ gb150)); have n7_ := Aside0.mk ((by rw [hg]; exact Nat.ne_of_gt (blk_lt (g := gb144) (o := .cells #[.int .i64 t141, .int .i64 t142] 36 (0, 0)) (by (with_reducible repeat (first | refine blk_drewN ?_ _ | refine blk_drew ?_ | refine blk_alloc ?_ _)); exact BK144.out)) : gb150 ≠ gb144)); have n8_ := Aside0.mk ((by rw [hg]; exact Nat.ne_of_lt (blk_lt (g := gb146) (o := .cells #[.int .i64 ((rd_T40 l0 x31_3).f0), .int .i64 ((rd_T40 l0 x31_3).f1), .int .i64 ((rd_T40 l0 x31_3).f2.f0), .int .i64 ((rd_T40 l0 x31_3).f2.f1)] 40 (0, 0)) (by (with_reducible repeat (first | refine blk_drewN ?_ _ | refine blk_drew ?_ | refine blk_alloc ?_ _)); exact BK146.out)) : gb146 ≠ gb150)); have n9_ := Aside0.mk ((by rw [hg]; exact Nat.ne_of_gt (blk_lt (g := gb146) (o := .cells #[.int .i64 ((rd_T40 l0 x31_3).f0), .int .i64 ((rd_T40 l0 x31_3).f1), .int .i64 ((rd_T40 l0 x31_3).f2.f0), .int .i64 ((rd_T40 l0 x31_3).f2.f1)] 40 (0, 0)) (by (with_reducible repeat (first | refine blk_drewN ?_ _ | refine blk_drew ?_ | refine blk_alloc ?_ _)); exact BK146.out)) : gb150 ≠ gb146)); clear BK144; clear BK146; clear HB; have BK144 := n0_; have BK146 := n1_; have HB := n2_; have BK150 := n3_; have GW150 := n4_; have GE150 := n5_; have NB144_150 := n6_; have NB150_144 := n7_; have NB146_150 := n8_; have NB150_146 := n9_; clear n0_ n1_ n2_ n3_ n4_ n5_ n6_ n7_ n8_ n9_; clear hb hbox hg; have hnb149 := NB150_144.out; have hnc149 := NB144_150.out; have hnb150 := NB150_146.out; have hnc150 := NB146_150.out; have hcz151_0 : w148.cell? ⟨gb150, 0, none⟩ = some (.int .i64 0) := (blk_cell BK150.out 0).trans rfl; have hcz151_1 : w148.cell? ⟨gb150, 1, none⟩ = some (.int .i64 0) := (blk_cell BK150.out 1).trans rfl; have hfz151_0 := blk_frozen BK150.out 0; have hfz151_1 := blk_frozen BK150.out 1; have hcz152_0 : w148.cell? ⟨gb146, 0, none⟩ = some (.int .i64 ((rd_T40 l0 x31_3).f0)) := (blk_cell BK146.out 0).trans rfl; have hcz152_1 : w148.cell? ⟨gb146, 1, none⟩ = some (.int .i64 ((rd_T40 l0 x31_3).f1)) := (blk_cell BK146.out 1).trans rfl; have hcz152_2 : w148.cell? ⟨gb146, 2, none⟩ = some (.int .i64 ((rd_T40 l0 x31_3).f2.f0)) := (blk_cell BK146.out 2).trans rfl; have hcz152_3 : w148.cell? ⟨gb146, 3, none⟩ = some (.int .i64 ((rd_T40 l0 x31_3).f2.f1)) := (blk_cell BK146.out 3).trans rfl; have hfz152_0 := blk_frozen BK146.out 0; have hfz152_1 := blk_frozen BK146.out 1; have hfz152_2 := blk_frozen BK146.out 2; have hfz152_3 := blk_frozen BK146.out 3) | ((with_reducible refine gate_callee (f := 26) rfl ?_); refine goesL_ (some 43) rfl rfl Try.func26 (by kernel_rfl) rfl #[.agg #[.int .i64 ((rd_T40 l0 x31_3).f0), .int .i64 ((rd_T40 l0 x31_3).f1), .int .i64 ((rd_T40 l0 x31_3).f2.f0), .int .i64 ((rd_T40 l0 x31_3).f2.f1)]] rfl (by (try simp only [List.map_toArray, List.map_cons, List.map_nil]); first | done | rfl | (simp only [List.length_drop, List.length_take]; rfl)) ?_; (with_reducible refine (link_Delay.calls k3 ((rd_T40 l0 x31_3).f0) ((rd_T40 l0 x31_3).f1) ((rd_T40 l0 x31_3).f2.f0) ((rd_T40 l0 x31_3).f2.f1) t151 t152 _ A17.out).mono ?_); rintro e w153 ⟨rfl, hb⟩; refine ⟨_, rfl, ?_⟩; have n0_ := Aside0.mk (blk_below (g := gb144) (o := .cells #[.int .i64 t141, .int .i64 t142] 36 (0, 0)) (by (with_reducible repeat (first | refine blk_drewN ?_ _ | refine blk_drew ?_ | refine blk_alloc ?_ _)); refine blk_far ?_ NB144_150.out _; (with_reducible repeat (first | refine blk_drewN ?_ _ | refine blk_drew ?_ | refine blk_alloc ?_ _)); refine blk_far ?_ NB144_150.out _; (with_reducible repeat (first | refine blk_drewN ?_ _ | refine blk_drew ?_ | refine blk_alloc ?_ _)); exact BK144.out) hb); have n1_ := Aside0.mk (blk_below (g := gb146) (o := .cells #[.int .i64 ((rd_T40 l0 x31_3).f0), .int .i64 ((rd_T40 l0 x31_3).f1), .int .i64 ((rd_T40 l0 x31_3).f2.f0), .int .i64 ((rd_T40 l0 x31_3).f2.f1)] 40 (0, 0)) (by (with_reducible repeat (first | refine blk_drewN ?_ _ | refine blk_drew ?_ | refine blk_alloc ?_ _)); refine blk_far ?_ NB146_150.out _; (with_reducible repeat (first | refine blk_drewN ?_ _ | refine blk_drew ?_ | refine blk_alloc ?_ _)); refine blk_far ?_ NB146_150.out _; (with_reducible repeat (first | refine blk_drewN ?_ _ | refine blk_drew ?_ | refine blk_alloc ?_ _)); exact BK146.out) hb); have n2_ := Aside0.mk (blk_below (g := gb150) (o := .cells #[.int .i64 t147, .int .i64 t148] 36 (0, 0)) (by (with_reducible repeat (first | refine blk_drewN ?_ _ | refine blk_drew ?_ | refine blk_alloc ?_ _)); refine blk_put (cs := #[.int .i64 t147, .int .i64 0]) ?_ 1 _ rfl; (with_reducible repeat (first | refine blk_drewN ?_ _ | refine blk_drew ?_ | refine blk_alloc ?_ _)); refine blk_put (cs := #[.int .i64 0, .int .i64 0]) ?_ 0 _ rfl; (with_reducible repeat (first | refine blk_drewN ?_ _ | refine blk_drew ?_ | refine blk_alloc ?_ _)); exact BK150.out) hb); have n3_ := Aside0.mk (below_step (by repeat (first | (with_reducible first | exact HB.out | apply below_alloc | apply pw_below_drewN | apply below_drew1 | refine below_set ?_ GE144.out | refine below_set ?_ GE146.out | refine below_set ?_ GE150.out) | exact HB.out)) hb); clear BK144; clear BK146; clear BK150; clear HB; have BK144 := n0_; have BK146 := n1_; have BK150 := n2_; have HB := n3_; clear n0_ n1_ n2_ n3_; (try clear hb); (try clear hb2); (try clear hk); (try clear hi); have hcz154_0 : w153.cell? ⟨gb146, 0, none⟩ = some (.int .i64 ((rd_T40 l0 x31_3).f0)) := (blk_cell BK146.out 0).trans rfl; have hcz154_1 : w153.cell? ⟨gb146, 1, none⟩ = some (.int .i64 ((rd_T40 l0 x31_3).f1)) := (blk_cell BK146.out 1).trans rfl; have hcz154_2 : w153.cell? ⟨gb146, 2, none⟩ = some (.int .i64 ((rd_T40 l0 x31_3).f2.f0)) := (blk_cell BK146.out 2).trans rfl; have hcz154_3 : w153.cell? ⟨gb146, 3, none⟩ = some (.int .i64 ((rd_T40 l0 x31_3).f2.f1)) := (blk_cell BK146.out 3).trans rfl; have hfz154_0 := blk_frozen BK146.out 0; have hfz154_1 := blk_frozen BK146.out 1; have hfz154_2 := blk_frozen BK146.out 2; have hfz154_3 := blk_frozen BK146.out 3) | ((with_reducible refine gate_callee (f := 27) rfl ?_); refine goesL_ (some 47) rfl rfl Try.func27 (by kernel_rfl) rfl #[.agg #[.int .i64 ((rd_T40 l0 x31_3).f0), .int .i64 ((rd_T40 l0 x31_3).f1), .int .i64 ((rd_T40 l0 x31_3).f2.f0), .int .i64 ((rd_T40 l0 x31_3).f2.f1)]] rfl (by (try simp only [List.map_toArray, List.map_cons, List.map_nil]); first | done | rfl | (simp only [List.length_drop, List.length_take]; rfl)) ?_; (with_reducible refine (ephemerislaw2_exchangeErr.calls k3 ((rd_T40 l0 x31_3).f0) ((rd_T40 l0 x31_3).f1) ((rd_T40 l0 x31_3).f2.f0) ((rd_T40 l0 x31_3).f2.f1) t153 _ A18.out).mono ?_); rintro e w155 ⟨rfl, hb⟩; refine ⟨_, rfl, ?_⟩; have n0_ := Aside0.mk (blk_below (g := gb144) (o := .cells #[.int .i64 t141, .int .i64 t142] 36 (0, 0)) (by (with_reducible repeat (first | refine blk_drewN ?_ _ | refine blk_drew ?_ | refine blk_alloc ?_ _)); exact BK144.out) hb); have n1_ := Aside0.mk (blk_below (g := gb146) (o := .cells #[.int .i64 ((rd_T40 l0 x31_3).f0), .int .i64 ((rd_T40 l0 x31_3).f1), .int .i64 ((rd_T40 l0 x31_3).f2.f0), .int .i64 ((rd_T40 l0 x31_3).f2.f1)] 40 (0, 0)) (by (with_reducible repeat (first | refine blk_drewN ?_ _ | refine blk_drew ?_ | refine blk_alloc ?_ _)); exact BK146.out) hb); have n2_ := Aside0.mk (blk_below (g := gb150) (o := .cells #[.int .i64 t147, .int .i64 t148] 36 (0, 0)) (by (with_reducible repeat (first | refine blk_drewN ?_ _ | refine blk_drew ?_ | refine blk_alloc ?_ _)); exact BK150.out) hb); have n3_ := Aside0.mk (below_step (by repeat (first | (with_reducible first | exact HB.out | apply below_alloc | apply pw_below_drewN | apply below_drew1 | refine below_set ?_ GE144.out | refine below_set ?_ GE146.out | refine below_set ?_ GE150.out) | exact HB.out)) hb); clear BK144; clear BK146; clear BK150; clear HB; have BK144 := n0_; have BK146 := n1_; have BK150 := n2_; have HB := n3_; clear n0_ n1_ n2_ n3_; (try clear hb); (try clear hb2); (try clear hk); (try clear hi); have hcz156_0 : w155.cell? ⟨gb146, 0, none⟩ = some (.int .i64 ((rd_T40 l0 x31_3).f0)) := (blk_cell BK146.out 0).trans rfl; have hcz156_1 : w155.cell? ⟨gb146, 1, none⟩ = some (.int .i64 ((rd_T40 l0 x31_3).f1)) := (blk_cell BK146.out 1).trans rfl; have hcz156_2 : w155.cell? ⟨gb146, 2, none⟩ = some (.int .i64 ((rd_T40 l0 x31_3).f2.f0)) := (blk_cell BK146.out 2).trans rfl; have hcz156_3 : w155.cell? ⟨gb146, 3, none⟩ = some (.int .i64 ((rd_T40 l0 x31_3).f2.f1)) := (blk_cell BK146.out 3).trans rfl; have hfz156_0 := blk_frozen BK146.out 0; have hfz156_1 := blk_frozen BK146.out 1; have hfz156_2 := blk_frozen BK146.out 2; have hfz156_3 := blk_frozen BK146.out 3) | ((with_reducible refine gate_callee (f := 28) rfl ?_); refine goesL_ (some 49) rfl rfl Try.func28 (by kernel_rfl) rfl #[.agg #[.int .i64 ((rd_T40 l0 x31_3).f0), .int .i64 ((rd_T40 l0 x31_3).f1), .int .i64 ((rd_T40 l0 x31_3).f2.f0), .int .i64 ((rd_T40 l0 x31_3).f2.f1)]] rfl (by (try simp only [List.map_toArray, List.map_cons, List.map_nil]); first | done | rfl | (simp only [List.length_drop, List.length_take]; rfl)) ?_; (with_reducible refine (link_Check.calls k3 ((rd_T40 l0 x31_3).f0) ((rd_T40 l0 x31_3).f1) ((rd_T40 l0 x31_3).f2.f0) ((rd_T40 l0 x31_3).f2.f1) t154 _ A19.out).mono ?_); rintro e w157 ⟨rfl, hb⟩; refine ⟨_, rfl, ?_⟩; have n0_ := Aside0.mk (blk_below (g := gb144) (o := .cells #[.int .i64 t141, .int .i64 t142] 36 (0, 0)) (by (with_reducible repeat (first | refine blk_drewN ?_ _ | refine blk_drew ?_ | refine blk_alloc ?_ _)); exact BK144.out) hb); have n1_ := Aside0.mk (blk_below (g := gb146) (o := .cells #[.int .i64 ((rd_T40 l0 x31_3).f0), .int .i64 ((rd_T40 l0 x31_3).f1), .int .i64 ((rd_T40 l0 x31_3).f2.f0), .int .i64 ((rd_T40 l0 x31_3).f2.f1)] 40 (0, 0)) (by (with_reducible repeat (first | refine blk_drewN ?_ _ | refine blk_drew ?_ | refine blk_alloc ?_ _)); exact BK146.out) hb); have n2_ := Aside0.mk (blk_below (g := gb150) (o := .cells #[.int .i64 t147, .int .i64 t148] 36 (0, 0)) (by (with_reducible repeat (first | refine blk_drewN ?_ _ | refine blk_drew ?_ | refine blk_alloc ?_ _)); exact BK150.out) hb); have n3_ := Aside0.mk (below_step (by repeat (first | (with_reducible first | exact HB.out | apply below_alloc | apply pw_below_drewN | apply below_drew1 | refine below_set ?_ GE144.out | refine below_set ?_ GE146.out | refine below_set ?_ GE150.out) | exact HB.out)) hb); clear BK144; clear BK146; clear BK150; clear HB; have BK144 := n0_; have BK146 := n1_; have BK150 := n2_; have HB := n3_; clear n0_ n1_ n2_ n3_; (try clear hb); (try clear hb2); (try clear hk); (try clear hi)))
                        go_ret
                        exact ⟨by first | rfl | (simp [errW_none, errW_some] <;> rfl) | (simp [*, errW_none, errW_some] <;> rfl), by repeat (first | (with_reducible first | exact HB.out | apply below_alloc | apply pw_below_drewN | apply below_drew1 | refine below_set ?_ GE144.out | refine below_set ?_ GE146.out | refine below_set ?_ GE150.out) | exact HB.out)⟩
                    · rw [if_neg c15] at H
                      exact absurd H (by simp)
                  · rw [if_neg c14] at H
                    exact absurd H (by simp)
                · rw [if_neg c13] at H
                  have c13b0 : decide (x31_3 < (l0.length : Int)) = false := decide_eq_false c13
                  clear c13
                  have HC158 := Aside0.mk H
                  clear H
                  go_upto_region 32 with (fail)
                  go_cut [140] (fun v140 wc => ∃ (kq : Nat) (x140_157 : Bool), v140 = .bool x140_157 ∧ Aside0 (ephemerislaw2_LinkOffsets.j8 kq t143 x5_3 x6_3 x7_3 x140_157 t141 t142 = some r) ∧ Aside0 (kq ≤ k3) ∧ Aside0 (wc.heap[gb144]? = some (.cells #[.int .i64 t141, .int .i64 t142] 36 (0, 0))) ∧ Aside0 (Below w.heap.size w wc))
                  case first =>
                    have H := HC158.out
                    clear HC158
                    by_cases c159 : x5_3 = 0
                    · rw [if_pos c159] at H
                      have c159b0 : (x5_3 == 0) = true := beq_iff_eq.mpr c159
                      have c159b1 : (x5_3 != 0) = false := bne_eq_false_iff_eq.mpr c159
                      clear c159
                      (first | rw [c159b0] | (simp only [i64_w, i32_w]; rw [c159b0]) | skip)
                      have H' := Aside0.mk H
                      clear H
                      go_wp2
                      go_meet
                      case rel => exact ⟨_, (decide (x6_3 > x7_3)), (by first | rfl | (simp; done) | (simp [*]; done)), H', ⟨by have := HJ4.out; have := HJ10.out; have := HK3.out; first | omega | exact Nat.le_refl _⟩, ⟨by (with_reducible repeat (first | refine blk_drewN ?_ _ | refine blk_drew ?_ | refine blk_alloc ?_ _)); exact BK144.out⟩, ⟨by repeat (first | (with_reducible first | exact HB.out | apply below_alloc | apply pw_below_drewN | apply below_drew1 | refine below_set ?_ GE144.out) | exact HB.out)⟩⟩
                    · rw [if_neg c159] at H
                      have c159b0 : (x5_3 == 0) = false := beq_eq_false_iff_ne.mpr c159
                      have c159b1 : (x5_3 != 0) = true := bne_iff_ne.mpr c159
                      (first | rw [c159b0] | (simp only [i64_w, i32_w]; rw [c159b0]) | skip)
                      have H' := Aside0.mk H
                      clear H
                      go_wp2
                      go_meet
                      case rel => exact ⟨_, (false), (by first | rfl | (simp; done) | (simp [*]; done)), H', ⟨by have := HJ4.out; have := HJ10.out; have := HK3.out; first | omega | exact Nat.le_refl _⟩, ⟨by (with_reducible repeat (first | refine blk_drewN ?_ _ | refine blk_drew ?_ | refine blk_alloc ?_ _)); exact BK144.out⟩, ⟨by repeat (first | (with_reducible first | exact HB.out | apply below_alloc | apply pw_below_drewN | apply below_drew1 | refine below_set ?_ GE144.out) | exact HB.out)⟩⟩
                  case rest =>
                    clear HC158
                    try clear c1
                    try clear p1
                    try clear q1
                    try clear hx1
                    try clear c2
                    try clear p2
                    try clear c3
                    try clear c4
                    try clear c5
                    try clear c6
                    try clear p6
                    try clear c7
                    try clear c8
                    try clear c9
                    try clear c10
                    try clear c10b0
                    try clear c10b1
                    try clear c10b2
                    try clear c11
                    try clear c12
                    try clear c12b0
                    try clear c12b1
                    try clear c13
                    try clear c13b0
                    try clear c14
                    try clear c14b0
                    try clear p14
                    try clear q14
                    try clear hx14
                    try clear c15
                    try clear c15b0
                    try clear c20
                    try clear c20b0
                    try clear c20b1
                    try clear c23
                    try clear c24
                    try clear c25
                    try clear c26
                    try clear c27
                    try clear c28
                    try clear c29
                    try clear c38
                    try clear c39
                    try clear c40
                    try clear c42
                    try clear c42b0
                    try clear c42b1
                    try clear c43
                    try clear c44
                    try clear c45
                    try clear c48
                    try clear c50
                    try clear c50b0
                    try clear c50b1
                    try clear c51
                    try clear c51b0
                    try clear c51b1
                    try clear c52
                    try clear c52b0
                    try clear c53
                    try clear c54
                    try clear c55
                    try clear c57
                    try clear c58
                    try clear c60
                    try clear c60b0
                    try clear c60b1
                    try clear c61
                    try clear c61b0
                    try clear c61b1
                    try clear c62
                    try clear c63
                    try clear c64
                    try clear p64
                    try clear c66
                    try clear c67
                    try clear c69
                    try clear c70
                    try clear c71
                    try clear c73
                    try clear c74
                    try clear c76
                    try clear c77
                    try clear c78
                    try clear c80
                    try clear c81
                    try clear c84
                    try clear c85
                    try clear c85b0
                    try clear c85b1
                    try clear c86
                    try clear c86b0
                    try clear c86b1
                    try clear c87
                    try clear c88
                    try clear c89
                    try clear c92
                    try clear c93
                    try clear c94
                    try clear c97
                    try clear c98
                    try clear c99
                    try clear c102
                    try clear c103
                    try clear c104
                    try clear c108
                    try clear c108b0
                    try clear c108b1
                    try clear c110
                    try clear c110b0
                    try clear c110b1
                    try clear c111
                    try clear c112
                    try clear c113
                    try clear c115
                    try clear c116
                    try clear c116b0
                    try clear c116b1
                    try clear c117
                    try clear c118
                    try clear c119
                    try clear c121
                    try clear c121b0
                    try clear c122
                    try clear c123
                    try clear c124
                    try clear c126
                    try clear c127
                    try clear c128
                    try clear c130
                    try clear c130b0
                    try clear c130b1
                    try clear c131
                    try clear c132
                    try clear c133
                    try clear c135
                    try clear c135b0
                    try clear c136
                    try clear c137
                    try clear c138
                    try clear c140
                    try clear c141
                    try clear c142
                    try clear c145
                    try clear p145
                    try clear q145
                    try clear hx145
                    try clear c149
                    try clear c150
                    try clear c159
                    try clear c159b0
                    try clear c159b1
                    try clear hcz100_0
                    try clear hcz100_1
                    try clear hcz105_0
                    try clear hcz105_1
                    try clear hcz114_0
                    try clear hcz114_1
                    try clear hcz120_0
                    try clear hcz120_1
                    try clear hcz125_0
                    try clear hcz125_1
                    try clear hcz129_0
                    try clear hcz129_1
                    try clear hcz134_0
                    try clear hcz134_1
                    try clear hcz139_0
                    try clear hcz139_1
                    try clear hcz143_0
                    try clear hcz143_1
                    try clear hcz146_0
                    try clear hcz146_1
                    try clear hcz146_2
                    try clear hcz146_3
                    try clear hcz151_0
                    try clear hcz151_1
                    try clear hcz152_0
                    try clear hcz152_1
                    try clear hcz152_2
                    try clear hcz152_3
                    try clear hcz154_0
                    try clear hcz154_1
                    try clear hcz154_2
                    try clear hcz154_3
                    try clear hcz156_0
                    try clear hcz156_1
                    try clear hcz156_2
                    try clear hcz156_3
                    try clear hcz24_0
                    try clear hcz24_1
                    try clear hcz24_2
                    try clear hcz24_3
                    try clear hcz29_0
                    try clear hcz29_1
                    try clear hcz30_0
                    try clear hcz30_1
                    try clear hcz30_2
                    try clear hcz30_3
                    try clear hcz32_0
                    try clear hcz32_1
                    try clear hcz32_2
                    try clear hcz32_3
                    try clear hcz34_0
                    try clear hcz34_1
                    try clear hcz34_2
                    try clear hcz34_3
                    try clear hcz36_0
                    try clear hcz36_1
                    try clear hcz36_2
                    try clear hcz36_3
                    try clear hcz41_0
                    try clear hcz41_1
                    try clear hcz46_0
                    try clear hcz46_1
                    try clear hcz56_0
                    try clear hcz56_1
                    try clear hcz59_0
                    try clear hcz59_1
                    try clear hcz65_0
                    try clear hcz65_1
                    try clear hcz68_0
                    try clear hcz68_1
                    try clear hcz72_0
                    try clear hcz72_1
                    try clear hcz75_0
                    try clear hcz75_1
                    try clear hcz79_0
                    try clear hcz79_1
                    try clear hcz82_0
                    try clear hcz82_1
                    try clear hcz90_0
                    try clear hcz90_1
                    try clear hcz95_0
                    try clear hcz95_1
                    try clear hcz9_0
                    try clear hcz9_1
                    try clear hfz100_0
                    try clear hfz100_1
                    try clear hfz105_0
                    try clear hfz105_1
                    try clear hfz114_0
                    try clear hfz114_1
                    try clear hfz120_0
                    try clear hfz120_1
                    try clear hfz125_0
                    try clear hfz125_1
                    try clear hfz129_0
                    try clear hfz129_1
                    try clear hfz134_0
                    try clear hfz134_1
                    try clear hfz139_0
                    try clear hfz139_1
                    try clear hfz143_0
                    try clear hfz143_1
                    try clear hfz146_0
                    try clear hfz146_1
                    try clear hfz146_2
                    try clear hfz146_3
                    try clear hfz151_0
                    try clear hfz151_1
                    try clear hfz152_0
                    try clear hfz152_1
                    try clear hfz152_2
                    try clear hfz152_3
                    try clear hfz154_0
                    try clear hfz154_1
                    try clear hfz154_2
                    try clear hfz154_3
                    try clear hfz156_0
                    try clear hfz156_1
                    try clear hfz156_2
                    try clear hfz156_3
                    try clear hfz24_0
                    try clear hfz24_1
                    try clear hfz24_2
                    try clear hfz24_3
                    try clear hfz29_0
                    try clear hfz29_1
                    try clear hfz30_0
                    try clear hfz30_1
                    try clear hfz30_2
                    try clear hfz30_3
                    try clear hfz32_0
                    try clear hfz32_1
                    try clear hfz32_2
                    try clear hfz32_3
                    try clear hfz34_0
                    try clear hfz34_1
                    try clear hfz34_2
                    try clear hfz34_3
                    try clear hfz36_0
                    try clear hfz36_1
                    try clear hfz36_2
                    try clear hfz36_3
                    try clear hfz41_0
                    try clear hfz41_1
                    try clear hfz46_0
                    try clear hfz46_1
                    try clear hfz56_0
                    try clear hfz56_1
                    try clear hfz59_0
                    try clear hfz59_1
                    try clear hfz65_0
                    try clear hfz65_1
                    try clear hfz68_0
                    try clear hfz68_1
                    try clear hfz72_0
                    try clear hfz72_1
                    try clear hfz75_0
                    try clear hfz75_1
                    try clear hfz79_0
                    try clear hfz79_1
                    try clear hfz82_0
                    try clear hfz82_1
                    try clear hfz90_0
                    try clear hfz90_1
                    try clear hfz95_0
                    try clear hfz95_1
                    try clear hfz9_0
                    try clear hfz9_1
                    try clear hx145_0
                    try clear hx145_1
                    try clear hx145_2
                    try clear hx145_3
                    try clear p1
                    try clear p14
                    try clear p145
                    try clear p2
                    try clear p6
                    try clear p64
                    try clear q1
                    try clear q14
                    try clear q145
                    obtain ⟨kq, x140_157, rfl, HA, HJ157, BK144, HB⟩ := hcut
                    cases kq with
                    | zero => exact absurd HA.out (by simp [ephemerislaw2_LinkOffsets.j8])
                    | succ kj157 =>
                      have H := HA.out
                      clear HA
                      simp only [ephemerislaw2_LinkOffsets.j8] at H
                      by_cases c160 : x140_157 = true
                      · subst c160
                        have H1 : (if 6 = 0 then (if t143 = 0 then (some (t141 == x6_3 && (t142 == x7_3))) else (some false)) else ((ephemerislaw2_none.f t141 t142 t143 6).bind fun t157 => (some t157))) = some r := by rw [if_pos rfl] at H; exact H
                        clear H
                        have H := H1
                        clear H1
                        by_cases c161 : 6 = 0
                        · rw [if_pos c161] at H
                          have c161b0 : (6 == 0) = true := beq_iff_eq.mpr c161
                          have c161b1 : (6 != 0) = false := bne_eq_false_iff_eq.mpr c161
                          clear c161
                          by_cases c162 : t143 = 0
                          · rw [if_pos c162] at H
                            have c162b0 : (t143 == 0) = true := beq_iff_eq.mpr c162
                            have c162b1 : (t143 != 0) = false := bne_eq_false_iff_eq.mpr c162
                            clear c162
                            obtain rfl := Option.some.inj H
                            have hcz163_0 : wc.cell? ⟨gb144, 0, none⟩ = some (.int .i64 t141) := (blk_cell BK144.out 0).trans rfl
                            have hcz163_1 : wc.cell? ⟨gb144, 1, none⟩ = some (.int .i64 t142) := (blk_cell BK144.out 1).trans rfl
                            have hfz163_0 := blk_frozen BK144.out 0
                            have hfz163_1 := blk_frozen BK144.out 1
                            go_wp2
                            all_goals (go_ret; exact ⟨by first | rfl | (simp [errW_none, errW_some] <;> rfl) | (simp [*, errW_none, errW_some] <;> rfl), by repeat (first | (with_reducible first | exact HB.out | apply below_alloc | apply pw_below_drewN | apply below_drew1 | refine below_set ?_ GE144.out) | exact HB.out)⟩)
                          · rw [if_neg c162] at H
                            have c162b0 : (t143 == 0) = false := beq_eq_false_iff_ne.mpr c162
                            have c162b1 : (t143 != 0) = true := bne_iff_ne.mpr c162
                            obtain rfl := Option.some.inj H
                            go_wp2
                            all_goals (go_ret; exact ⟨by first | rfl | (simp [errW_none, errW_some] <;> rfl) | (simp [*, errW_none, errW_some] <;> rfl), by repeat (first | (with_reducible first | exact HB.out | apply below_alloc | apply pw_below_drewN | apply below_drew1 | refine below_set ?_ GE144.out) | exact HB.out)⟩)
                        · rw [if_neg c161] at H
                          have c161b0 : (6 == 0) = false := beq_eq_false_iff_ne.mpr c161
                          have c161b1 : (6 != 0) = true := bne_iff_ne.mpr c161
                          replace H := Option.bind_eq_some_iff.mp H
                          obtain ⟨t157, A1640, H⟩ := H
                          replace H : (some t157) = some r := H
                          have A164 := Aside0.mk A1640
                          clear A1640
                          obtain rfl := Option.some.inj H
                          have hcz165_0 : wc.cell? ⟨gb144, 0, none⟩ = some (.int .i64 t141) := (blk_cell BK144.out 0).trans rfl
                          have hcz165_1 : wc.cell? ⟨gb144, 1, none⟩ = some (.int .i64 t142) := (blk_cell BK144.out 1).trans rfl
                          have hfz165_0 := blk_frozen BK144.out 0
                          have hfz165_1 := blk_frozen BK144.out 1
                          go_wp2_with (first | ((with_reducible refine gate_callee (f := 29) rfl ?_); refine goesL_ (some 146) rfl rfl Try.func29 (by kernel_rfl) rfl #[.agg #[.int .i64 t141, .int .i64 t142], .int .i64 t143, .int .i64 6] rfl (by (try simp only [List.map_toArray, List.map_cons, List.map_nil]); first | done | rfl | (simp only [List.length_drop, List.length_take]; rfl)) ?_; (with_reducible refine (ephemerislaw2_none.calls t141 t142 t143 6 t157 _ A164.out).mono ?_); rintro e w166 ⟨rfl, hb⟩; refine ⟨_, rfl, ?_⟩; have n0_ := Aside0.mk (blk_below (g := gb144) (o := .cells #[.int .i64 t141, .int .i64 t142] 36 (0, 0)) (by (with_reducible repeat (first | refine blk_drewN ?_ _ | refine blk_drew ?_ | refine blk_alloc ?_ _)); exact BK144.out) hb); have n1_ := Aside0.mk (below_step (by repeat (first | (with_reducible first | exact HB.out | apply below_alloc | apply pw_below_drewN | apply below_drew1 | refine below_set ?_ GE144.out) | exact HB.out)) hb); clear BK144; clear HB; have BK144 := n0_; have HB := n1_; clear n0_ n1_; (try clear hb); (try clear hb2); (try clear hk); (try clear hi)))
                          go_ret
                          exact ⟨by first | rfl | (simp [errW_none, errW_some] <;> rfl) | (simp [*, errW_none, errW_some] <;> rfl), by repeat (first | (with_reducible first | exact HB.out | apply below_alloc | apply pw_below_drewN | apply below_drew1 | refine below_set ?_ GE144.out) | exact HB.out)⟩
                      · replace c160 := Bool.eq_false_iff.mpr c160
                        subst c160
                        have H1 : (if x5_3 = 0 then (if t143 = 0 then (some (t141 == x6_3 && (t142 == x7_3))) else (some false)) else ((ephemerislaw2_none.f t141 t142 t143 x5_3).bind fun t158 => (some t158))) = some r := by rw [if_neg (show ¬ (false = true) by decide)] at H; exact H
                        clear H
                        have H := H1
                        clear H1
                        by_cases c167 : x5_3 = 0
                        · rw [if_pos c167] at H
                          have c167b0 : (x5_3 == 0) = true := beq_iff_eq.mpr c167
                          have c167b1 : (x5_3 != 0) = false := bne_eq_false_iff_eq.mpr c167
                          clear c167
                          by_cases c168 : t143 = 0
                          · rw [if_pos c168] at H
                            have c168b0 : (t143 == 0) = true := beq_iff_eq.mpr c168
                            have c168b1 : (t143 != 0) = false := bne_eq_false_iff_eq.mpr c168
                            clear c168
                            obtain rfl := Option.some.inj H
                            have hcz169_0 : wc.cell? ⟨gb144, 0, none⟩ = some (.int .i64 t141) := (blk_cell BK144.out 0).trans rfl
                            have hcz169_1 : wc.cell? ⟨gb144, 1, none⟩ = some (.int .i64 t142) := (blk_cell BK144.out 1).trans rfl
                            have hfz169_0 := blk_frozen BK144.out 0
                            have hfz169_1 := blk_frozen BK144.out 1
                            go_wp2
                            go_ret
                            exact ⟨by first | rfl | (simp [errW_none, errW_some] <;> rfl) | (simp [*, errW_none, errW_some] <;> rfl), by repeat (first | (with_reducible first | exact HB.out | apply below_alloc | apply pw_below_drewN | apply below_drew1 | refine below_set ?_ GE144.out) | exact HB.out)⟩
                          · rw [if_neg c168] at H
                            have c168b0 : (t143 == 0) = false := beq_eq_false_iff_ne.mpr c168
                            have c168b1 : (t143 != 0) = true := bne_iff_ne.mpr c168
                            obtain rfl := Option.some.inj H
                            go_wp2
                            go_ret
                            exact ⟨by first | rfl | (simp [errW_none, errW_some] <;> rfl) | (simp [*, errW_none, errW_some] <;> rfl), by repeat (first | (with_reducible first | exact HB.out | apply below_alloc | apply pw_below_drewN | apply below_drew1 | refine below_set ?_ GE144.out) | exact HB.out)⟩
                        · rw [if_neg c167] at H
                          have c167b0 : (x5_3 == 0) = false := beq_eq_false_iff_ne.mpr c167
                          have c167b1 : (x5_3 != 0) = true := bne_iff_ne.mpr c167
                          replace H := Option.bind_eq_some_iff.mp H
                          obtain ⟨t158, A1700, H⟩ := H
                          replace H : (some t158) = some r := H
                          have A170 := Aside0.mk A1700
                          clear A1700
                          obtain rfl := Option.some.inj H
                          have hcz171_0 : wc.cell? ⟨gb144, 0, none⟩ = some (.int .i64 t141) := (blk_cell BK144.out 0).trans rfl
                          have hcz171_1 : wc.cell? ⟨gb144, 1, none⟩ = some (.int .i64 t142) := (blk_cell BK144.out 1).trans rfl
                          have hfz171_0 := blk_frozen BK144.out 0
                          have hfz171_1 := blk_frozen BK144.out 1
                          go_wp2_with (first | ((with_reducible refine gate_callee (f := 29) rfl ?_); refine goesL_ (some 146) rfl rfl Try.func29 (by kernel_rfl) rfl #[.agg #[.int .i64 t141, .int .i64 t142], .int .i64 t143, .int .i64 x5_3] rfl (by (try simp only [List.map_toArray, List.map_cons, List.map_nil]); first | done | rfl | (simp only [List.length_drop, List.length_take]; rfl)) ?_; (with_reducible refine (ephemerislaw2_none.calls t141 t142 t143 x5_3 t158 _ A170.out).mono ?_); rintro e w172 ⟨rfl, hb⟩; refine ⟨_, rfl, ?_⟩; have n0_ := Aside0.mk (blk_below (g := gb144) (o := .cells #[.int .i64 t141, .int .i64 t142] 36 (0, 0)) (by (with_reducible repeat (first | refine blk_drewN ?_ _ | refine blk_drew ?_ | refine blk_alloc ?_ _)); exact BK144.out) hb); have n1_ := Aside0.mk (below_step (by repeat (first | (with_reducible first | exact HB.out | apply below_alloc | apply pw_below_drewN | apply below_drew1 | refine below_set ?_ GE144.out) | exact HB.out)) hb); clear BK144; clear HB; have BK144 := n0_; have HB := n1_; clear n0_ n1_; (try clear hb); (try clear hb2); (try clear hk); (try clear hi)))
                          go_ret
                          exact ⟨by first | rfl | (simp [errW_none, errW_some] <;> rfl) | (simp [*, errW_none, errW_some] <;> rfl), by repeat (first | (with_reducible first | exact HB.out | apply below_alloc | apply pw_below_drewN | apply below_drew1 | refine below_set ?_ GE144.out) | exact HB.out)⟩
  · replace c3 := Bool.eq_false_iff.mpr c3
    subst c3
    have H1 : (some false) = some r := by rw [if_neg (show ¬ (false = true) by decide)] at H; exact H
    clear H
    have H := H1
    clear H1
    obtain rfl := Option.some.inj H
    go_enter Try.func4, Try.ntmps4
    go_wp2_with (first | ((with_reducible refine gate_callee (f := 23) rfl ?_); refine goesL_ (some 16) rfl rfl Try.func23 (by kernel_rfl) rfl #[] rfl (by (try simp only [List.map_toArray, List.map_cons, List.map_nil]); first | done | rfl | (simp only [List.length_drop, List.length_take]; rfl)) ?_; (with_reducible refine (ephemerislaw2_linkWorks.calls k  false _ A2.out).mono ?_); rintro e w173 ⟨rfl, hb⟩; refine ⟨_, rfl, ?_⟩; have n0_ := Aside0.mk (below_step (by repeat (first | (with_reducible first | exact HB.out | apply below_alloc | apply pw_below_drewN | apply below_drew1) | exact HB.out)) hb); clear HB; have HB := n0_; clear n0_; (try clear hb); (try clear hb2); (try clear hk); (try clear hi)))
    go_ret
    exact ⟨by first | rfl | (simp [errW_none, errW_some] <;> rfl) | (simp [*, errW_none, errW_some] <;> rfl), by repeat (first | (with_reducible first | exact HB.out | apply below_alloc | apply pw_below_drewN | apply below_drew1) | exact HB.out)⟩

end Go.Proofs.Ytcmgfhfnfkelfaa.PLinkOffsets
