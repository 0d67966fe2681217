-- PRINTED BY print.sh 35421559b90ae4d0a3588c463048766b98c2df88dd9212a6774a882060cdf62d: not written by this session
import Derived.Test.YtcmgfhfnfkelfaaPSmearSmearsx0
import Derived.Test.YtcmgfhfnfkelfaaPSmearSmearsx1
import Derived.Test.YtcmgfhfnfkelfaaPSmearSmearsx2
namespace Go.Proofs.Ytcmgfhfnfkelfaa.PSmearSmears
open Go.RowKit Go.Proofs.YtcmgfhfnfkelfaaW.PrintWords Go.Proofs.YtcmgfhfnfkelfaaW.PrintLast Go.Proofs.YtcmgfhfnfkelfaaW.PrintMore
attribute [local go_sem] max2_int min2_int max_two min_two max_three min_three max_four min_four   -- for this text's walks alone
set_option linter.unusedVariables false
set_option linter.unusedSimpArgs false

/-! ### ephemerislaw2_SmearSmears: function 3 -/
mutual
def ephemerislaw2_SmearSmears.j0 : Nat → List (S31) → Int → Int → Int → Int → Int → Int → Int → Bool → Option (Bool)
  | 0, _, _, _, _, _, _, _, _, _ => none
  | k + 1, x0, x1, x2, x7, x8, x9, x10, x11, x47 => if x47 = true then (ephemerislaw2_SmearSmears.j1 k x0 x1 x2 x7 x8 x9 x10 1) else (ephemerislaw2_SmearSmears.j1 k x0 x1 x2 x7 x8 x9 x10 x11)
def ephemerislaw2_SmearSmears.j1 : Nat → List (S31) → Int → Int → Int → Int → Int → Int → Int → Option (Bool)
  | 0, _, _, _, _, _, _, _, _ => none
  | k + 1, x0, x1, x2, x7, x8, x9, x10, x11 => (smear_Check.f k x0 x1).bind fun t125 => (if t125 = x11 then (if x11 = 0 then ((ephemerislaw2_beyond.f x2 400000000000000).bind fun t126 => (ephemerislaw2_SmearSmears.j2 k x0 x1 x2 x7 x8 x9 x10 x11 t126)) else (ephemerislaw2_SmearSmears.j2 k x0 x1 x2 x7 x8 x9 x10 x11 false)) else (some false))
def ephemerislaw2_SmearSmears.j2 : Nat → List (S31) → Int → Int → Int → Int → Int → Int → Int → Bool → Option (Bool)
  | 0, _, _, _, _, _, _, _, _, _ => none
  | k + 1, x0, x1, x2, x7, x8, x9, x10, x11, x58 => if x58 = true then (ephemerislaw2_SmearSmears.j3 k x0 x1 x2 x7 x8 x9 x10 3) else (ephemerislaw2_SmearSmears.j3 k x0 x1 x2 x7 x8 x9 x10 x11)
def ephemerislaw2_SmearSmears.j3 : Nat → List (S31) → Int → Int → Int → Int → Int → Int → Int → Option (Bool)
  | 0, _, _, _, _, _, _, _, _ => none
  | k + 1, x0, x1, x2, x7, x8, x9, x10, x11 => if x11 = 0 then (ephemerislaw2_SmearSmears.l0 k x1 x2 x7 x8 x9 x10 0 0 false x0 (x0.length : Int) 0) else (if x8 = x11 then (if x10 = x11 then (if x7 = 0 then (some (x9 == 0)) else (some false)) else (some false)) else (some false))
def ephemerislaw2_SmearSmears.l0 : Nat → Int → Int → Int → Int → Int → Int → Int → Int → Bool → List (S31) → Int → Int → Option (Bool)
  | 0, _, _, _, _, _, _, _, _, _, _, _, _ => none
  | k + 1, x1, x2, x7, x8, x9, x10, x12, x13, x14, x77, x78, x79 => if x79 < x78 then (if 0 ≤ x79 then (if x79 < (x77.length : Int) then (if x2 ≥ (wrap64 ((wrap64 ((wrap64 ((wrap64 (((rd_T31 x77 x79).f0) + 1)) * 86400000)) - x1)) + (wrap64 (1000 * x12)))) then (ephemerislaw2_SmearSmears.j5 k x1 x2 x7 x8 x9 x10 x12 x13 x14 (wrap64 ((wrap64 ((wrap64 (((rd_T31 x77 x79).f0) + 1)) * 86400000)) - x1)) (wrap64 ((wrap64 (2 * x1)) + (wrap64 (1000 * ((rd_T31 x77 x79).f1))))) (wrap64 ((wrap64 ((wrap64 ((wrap64 (((rd_T31 x77 x79).f0) + 1)) * 86400000)) - x1)) + (wrap64 (1000 * x12)))) x77 x78 x79 (decide (x2 < (wrap64 ((wrap64 ((wrap64 ((wrap64 ((wrap64 (((rd_T31 x77 x79).f0) + 1)) * 86400000)) - x1)) + (wrap64 (1000 * x12)))) + (wrap64 ((wrap64 (2 * x1)) + (wrap64 (1000 * ((rd_T31 x77 x79).f1))))))))) ((rd_T31 x77 x79).f0) ((rd_T31 x77 x79).f1)) else (ephemerislaw2_SmearSmears.j5 k x1 x2 x7 x8 x9 x10 x12 x13 x14 (wrap64 ((wrap64 ((wrap64 (((rd_T31 x77 x79).f0) + 1)) * 86400000)) - x1)) (wrap64 ((wrap64 (2 * x1)) + (wrap64 (1000 * ((rd_T31 x77 x79).f1))))) (wrap64 ((wrap64 ((wrap64 ((wrap64 (((rd_T31 x77 x79).f0) + 1)) * 86400000)) - x1)) + (wrap64 (1000 * x12)))) x77 x78 x79 false ((rd_T31 x77 x79).f0) ((rd_T31 x77 x79).f1))) else (none)) else (none)) else (if x14 = true then ((ephemerisref2_InstantErr.f x13).bind fun t129 => (if t129 = 0 then (if x8 = 0 then (if x7 = x13 then (if x10 = 0 then (some (x9 == (wrap64 (x13 - x2)))) else (some false)) else (some false)) else (some false)) else (if x8 = 3 then (if x10 = x8 then (if x7 = 0 then (some (x9 == 0)) else (some false)) else (some false)) else (some false)))) else ((ephemerisref2_InstantErr.f (wrap64 (x2 - (wrap64 (1000 * x12))))).bind fun t130 => (if t130 = 0 then (if x8 = 0 then (if x7 = (wrap64 (x2 - (wrap64 (1000 * x12)))) then (if x10 = 0 then (some (x9 == (wrap64 ((wrap64 (x2 - (wrap64 (1000 * x12)))) - x2)))) else (some false)) else (some false)) else (some false)) else (if x8 = 3 then (if x10 = x8 then (if x7 = 0 then (some (x9 == 0)) else (some false)) else (some false)) else (some false)))))
def ephemerislaw2_SmearSmears.j5 : Nat → Int → Int → Int → Int → Int → Int → Int → Int → Bool → Int → Int → Int → List (S31) → Int → Int → Bool → Int → Int → Option (Bool)
  | 0, _, _, _, _, _, _, _, _, _, _, _, _, _, _, _, _, _, _ => none
  | k + 1, x1, x2, x7, x8, x9, x10, x12, x13, x14, x17, x18, x19, x77, x78, x79, x108, x129000, x129001 => if x108 = true then (if x18 = 0 then (none) else (if x2 ≥ (wrap64 ((wrap64 (x17 + (wrap64 (1000 * x12)))) + x18)) then (ephemerislaw2_SmearSmears.l0 k x1 x2 x7 x8 x9 x10 (wrap64 (x12 + x129001)) (wrap64 (x17 + (wrap64 (Int.tdiv (wrap64 ((wrap64 ((wrap64 (x2 - x19)) * 2)) * x1)) x18)))) true x77 x78 (wrap64 (x79 + 1))) else (ephemerislaw2_SmearSmears.l0 k x1 x2 x7 x8 x9 x10 x12 (wrap64 (x17 + (wrap64 (Int.tdiv (wrap64 ((wrap64 ((wrap64 (x2 - x19)) * 2)) * x1)) x18)))) true x77 x78 (wrap64 (x79 + 1))))) else (if x2 ≥ (wrap64 ((wrap64 (x17 + (wrap64 (1000 * x12)))) + x18)) then (ephemerislaw2_SmearSmears.l0 k x1 x2 x7 x8 x9 x10 (wrap64 (x12 + x129001)) x13 x14 x77 x78 (wrap64 (x79 + 1))) else (ephemerislaw2_SmearSmears.l0 k x1 x2 x7 x8 x9 x10 x12 x13 x14 x77 x78 (wrap64 (x79 + 1))))
end
def ephemerislaw2_SmearSmears.f (k : Nat) (l0 : List (S31)) (a1 : Int) (a2 : Int) : Option (Bool) := (ephemerislaw2_smearWorks.f k).bind fun t119 => (if t119 = true then ((smear_Smear.f k l0 a1 a2).bind fun bt120 => ((smear_Offset.f k l0 a1 a2).bind fun bt122 => ((ephemerisref2_LeapsErr.f k l0).bind fun t124 => (if t124 = 0 then (if a1 < 1000 then (ephemerislaw2_SmearSmears.j0 k l0 a1 a2 bt120.1 bt120.2 bt122.1 bt122.2 t124 true) else (ephemerislaw2_SmearSmears.j0 k l0 a1 a2 bt120.1 bt120.2 bt122.1 bt122.2 t124 (decide (a1 > 43200000)))) else (ephemerislaw2_SmearSmears.j0 k l0 a1 a2 bt120.1 bt120.2 bt122.1 bt122.2 t124 false))))) else (some false))
theorem ephemerislaw2_SmearSmears.mono_l : ∀ k, (∀ y0 y1 y2 y3 y4 y5 y6 y7 y8, LeO (ephemerislaw2_SmearSmears.j0 k y0 y1 y2 y3 y4 y5 y6 y7 y8) (ephemerislaw2_SmearSmears.j0 (k + 1) y0 y1 y2 y3 y4 y5 y6 y7 y8)) ∧ (∀ y0 y1 y2 y3 y4 y5 y6 y7, LeO (ephemerislaw2_SmearSmears.j1 k y0 y1 y2 y3 y4 y5 y6 y7) (ephemerislaw2_SmearSmears.j1 (k + 1) y0 y1 y2 y3 y4 y5 y6 y7)) ∧ (∀ y0 y1 y2 y3 y4 y5 y6 y7 y8, LeO (ephemerislaw2_SmearSmears.j2 k y0 y1 y2 y3 y4 y5 y6 y7 y8) (ephemerislaw2_SmearSmears.j2 (k + 1) y0 y1 y2 y3 y4 y5 y6 y7 y8)) ∧ (∀ y0 y1 y2 y3 y4 y5 y6 y7, LeO (ephemerislaw2_SmearSmears.j3 k y0 y1 y2 y3 y4 y5 y6 y7) (ephemerislaw2_SmearSmears.j3 (k + 1) y0 y1 y2 y3 y4 y5 y6 y7)) ∧ (∀ y0 y1 y2 y3 y4 y5 y6 y7 y8 y9 y10 y11, LeO (ephemerislaw2_SmearSmears.l0 k y0 y1 y2 y3 y4 y5 y6 y7 y8 y9 y10 y11) (ephemerislaw2_SmearSmears.l0 (k + 1) y0 y1 y2 y3 y4 y5 y6 y7 y8 y9 y10 y11)) ∧ (∀ y0 y1 y2 y3 y4 y5 y6 y7 y8 y9 y10 y11 y12 y13 y14 y15 y16 y17, LeO (ephemerislaw2_SmearSmears.j5 k y0 y1 y2 y3 y4 y5 y6 y7 y8 y9 y10 y11 y12 y13 y14 y15 y16 y17) (ephemerislaw2_SmearSmears.j5 (k + 1) y0 y1 y2 y3 y4 y5 y6 y7 y8 y9 y10 y11 y12 y13 y14 y15 y16 y17))
  | 0 => ⟨fun _ _ _ _ _ _ _ _ _ r h => by simp [ephemerislaw2_SmearSmears.j0] at h, fun _ _ _ _ _ _ _ _ r h => by simp [ephemerislaw2_SmearSmears.j1] at h, fun _ _ _ _ _ _ _ _ _ r h => by simp [ephemerislaw2_SmearSmears.j2] at h, fun _ _ _ _ _ _ _ _ r h => by simp [ephemerislaw2_SmearSmears.j3] at h, fun _ _ _ _ _ _ _ _ _ _ _ _ r h => by simp [ephemerislaw2_SmearSmears.l0] at h, fun _ _ _ _ _ _ _ _ _ _ _ _ _ _ _ _ _ _ r h => by simp [ephemerislaw2_SmearSmears.j5] at h⟩
  | k + 1 => by
    obtain ⟨ih0, ih1, ih2, ih3, ih4, ih5⟩ := ephemerislaw2_SmearSmears.mono_l k
    refine ⟨?_, ?_, ?_, ?_, ?_, ?_⟩
    · intro y0 y1 y2 y3 y4 y5 y6 y7 y8
      unfold ephemerislaw2_SmearSmears.j0
      repeat' first
      | (with_reducible exact ih0 _ _ _ _ _ _ _ _ _)
      | (with_reducible exact ih1 _ _ _ _ _ _ _ _)
      | (with_reducible exact ih2 _ _ _ _ _ _ _ _ _)
      | (with_reducible exact ih3 _ _ _ _ _ _ _ _)
      | (with_reducible exact ih4 _ _ _ _ _ _ _ _ _ _ _ _)
      | (with_reducible exact ih5 _ _ _ _ _ _ _ _ _ _ _ _ _ _ _ _ _ _)
      | (with_reducible exact ephemerislaw2_smearWorks.mono _)
      | (with_reducible exact ephemerisref2_LeapsErr.mono _ _)
      | (with_reducible exact smear_Check.mono _ _ _)
      | (with_reducible exact smear_Offset.mono _ _ _ _)
      | (with_reducible exact smear_Smear.mono _ _ _ _)
      | (with_reducible exact LeO.refl _)
      | (with_reducible exact LeO.none _)
      | (with_reducible refine LeO.ite ?_ ?_)
      | (with_reducible refine LeO.bind ?_ (fun _ => ?_))
      | exact ih0 _ _ _ _ _ _ _ _ _
      | exact ih1 _ _ _ _ _ _ _ _
      | exact ih2 _ _ _ _ _ _ _ _ _
      | exact ih3 _ _ _ _ _ _ _ _
      | exact ih4 _ _ _ _ _ _ _ _ _ _ _ _
      | exact ih5 _ _ _ _ _ _ _ _ _ _ _ _ _ _ _ _ _ _
      | exact ephemerislaw2_smearWorks.mono _
      | exact ephemerisref2_LeapsErr.mono _ _
      | exact smear_Check.mono _ _ _
      | exact smear_Offset.mono _ _ _ _
      | exact smear_Smear.mono _ _ _ _
      | exact LeO.none _
      | refine LeO.ite ?_ ?_
      | refine LeO.bind ?_ (fun _ => ?_)
    · intro y0 y1 y2 y3 y4 y5 y6 y7
      unfold ephemerislaw2_SmearSmears.j1
      repeat' first
      | (with_reducible exact ih0 _ _ _ _ _ _ _ _ _)
      | (with_reducible exact ih1 _ _ _ _ _ _ _ _)
      | (with_reducible exact ih2 _ _ _ _ _ _ _ _ _)
      | (with_reducible exact ih3 _ _ _ _ _ _ _ _)
      | (with_reducible exact ih4 _ _ _ _ _ _ _ _ _ _ _ _)
      | (with_reducible exact ih5 _ _ _ _ _ _ _ _ _ _ _ _ _ _ _ _ _ _)
      | (with_reducible exact ephemerislaw2_smearWorks.mono _)
      | (with_reducible exact ephemerisref2_LeapsErr.mono _ _)
      | (with_reducible exact smear_Check.mono _ _ _)
      | (with_reducible exact smear_Offset.mono _ _ _ _)
      | (with_reducible exact smear_Smear.mono _ _ _ _)
      | (with_reducible exact LeO.refl _)
      | (with_reducible exact LeO.none _)
      | (with_reducible refine LeO.ite ?_ ?_)
      | (with_reducible refine LeO.bind ?_ (fun _ => ?_))
      | exact ih0 _ _ _ _ _ _ _ _ _
      | exact ih1 _ _ _ _ _ _ _ _
      | exact ih2 _ _ _ _ _ _ _ _ _
      | exact ih3 _ _ _ _ _ _ _ _
      | exact ih4 _ _ _ _ _ _ _ _ _ _ _ _
      | exact ih5 _ _ _ _ _ _ _ _ _ _ _ _ _ _ _ _ _ _
      | exact ephemerislaw2_smearWorks.mono _
      | exact ephemerisref2_LeapsErr.mono _ _
      | exact smear_Check.mono _ _ _
      | exact smear_Offset.mono _ _ _ _
      | exact smear_Smear.mono _ _ _ _
      | exact LeO.none _
      | refine LeO.ite ?_ ?_
      | refine LeO.bind ?_ (fun _ => ?_)
    · intro y0 y1 y2 y3 y4 y5 y6 y7 y8
      unfold ephemerislaw2_SmearSmears.j2
      repeat' first
      | (with_reducible exact ih0 _ _ _ _ _ _ _ _ _)
      | (with_reducible exact ih1 _ _ _ _ _ _ _ _)
      | (with_reducible exact ih2 _ _ _ _ _ _ _ _ _)
      | (with_reducible exact ih3 _ _ _ _ _ _ _ _)
      | (with_reducible exact ih4 _ _ _ _ _ _ _ _ _ _ _ _)
      | (with_reducible exact ih5 _ _ _ _ _ _ _ _ _ _ _ _ _ _ _ _ _ _)
      | (with_reducible exact ephemerislaw2_smearWorks.mono _)
      | (with_reducible exact ephemerisref2_LeapsErr.mono _ _)
      | (with_reducible exact smear_Check.mono _ _ _)
      | (with_reducible exact smear_Offset.mono _ _ _ _)
      | (with_reducible exact smear_Smear.mono _ _ _ _)
      | (with_reducible exact LeO.refl _)
      | (with_reducible exact LeO.none _)
      | (with_reducible refine LeO.ite ?_ ?_)
      | (with_reducible refine LeO.bind ?_ (fun _ => ?_))
      | exact ih0 _ _ _ _ _ _ _ _ _
      | exact ih1 _ _ _ _ _ _ _ _
      | exact ih2 _ _ _ _ _ _ _ _ _
      | exact ih3 _ _ _ _ _ _ _ _
      | exact ih4 _ _ _ _ _ _ _ _ _ _ _ _
      | exact ih5 _ _ _ _ _ _ _ _ _ _ _ _ _ _ _ _ _ _
      | exact ephemerislaw2_smearWorks.mono _
      | exact ephemerisref2_LeapsErr.mono _ _
      | exact smear_Check.mono _ _ _
      | exact smear_Offset.mono _ _ _ _
      | exact smear_Smear.mono _ _ _ _
      | exact LeO.none _
      | refine LeO.ite ?_ ?_
      | refine LeO.bind ?_ (fun _ => ?_)
    · intro y0 y1 y2 y3 y4 y5 y6 y7
      unfold ephemerislaw2_SmearSmears.j3
      repeat' first
      | (with_reducible exact ih0 _ _ _ _ _ _ _ _ _)
      | (with_reducible exact ih1 _ _ _ _ _ _ _ _)
      | (with_reducible exact ih2 _ _ _ _ _ _ _ _ _)
      | (with_reducible exact ih3 _ _ _ _ _ _ _ _)
      | (with_reducible exact ih4 _ _ _ _ _ _ _ _ _ _ _ _)
      | (with_reducible exact ih5 _ _ _ _ _ _ _ _ _ _ _ _ _ _ _ _ _ _)
      | (with_reducible exact ephemerislaw2_smearWorks.mono _)
      | (with_reducible exact ephemerisref2_LeapsErr.mono _ _)
      | (with_reducible exact smear_Check.mono _ _ _)
      | (with_reducible exact smear_Offset.mono _ _ _ _)
      | (with_reducible exact smear_Smear.mono _ _ _ _)
      | (with_reducible exact LeO.refl _)
      | (with_reducible exact LeO.none _)
      | (with_reducible refine LeO.ite ?_ ?_)
      | (with_reducible refine LeO.bind ?_ (fun _ => ?_))
      | exact ih0 _ _ _ _ _ _ _ _ _
      | exact ih1 _ _ _ _ _ _ _ _
      | exact ih2 _ _ _ _ _ _ _ _ _
      | exact ih3 _ _ _ _ _ _ _ _
      | exact ih4 _ _ _ _ _ _ _ _ _ _ _ _
      | exact ih5 _ _ _ _ _ _ _ _ _ _ _ _ _ _ _ _ _ _
      | exact ephemerislaw2_smearWorks.mono _
      | exact ephemerisref2_LeapsErr.mono _ _
      | exact smear_Check.mono _ _ _
      | exact smear_Offset.mono _ _ _ _
      | exact smear_Smear.mono _ _ _ _
      | exact LeO.none _
      | refine LeO.ite ?_ ?_
      | refine LeO.bind ?_ (fun _ => ?_)
    · intro y0 y1 y2 y3 y4 y5 y6 y7 y8 y9 y10 y11
      unfold ephemerislaw2_SmearSmears.l0
      repeat' first
      | (with_reducible exact ih0 _ _ _ _ _ _ _ _ _)
      | (with_reducible exact ih1 _ _ _ _ _ _ _ _)
      | (with_reducible exact ih2 _ _ _ _ _ _ _ _ _)
      | (with_reducible exact ih3 _ _ _ _ _ _ _ _)
      | (with_reducible exact ih4 _ _ _ _ _ _ _ _ _ _ _ _)
      | (with_reducible exact ih5 _ _ _ _ _ _ _ _ _ _ _ _ _ _ _ _ _ _)
      | (with_reducible exact ephemerislaw2_smearWorks.mono _)
      | (with_reducible exact ephemerisref2_LeapsErr.mono _ _)
      | (with_reducible exact smear_Check.mono _ _ _)
      | (with_reducible exact smear_Offset.mono _ _ _ _)
      | (with_reducible exact smear_Smear.mono _ _ _ _)
      | (with_reducible exact LeO.refl _)
      | (with_reducible exact LeO.none _)
      | (with_reducible refine LeO.ite ?_ ?_)
      | (with_reducible refine LeO.bind ?_ (fun _ => ?_))
      | exact ih0 _ _ _ _ _ _ _ _ _
      | exact ih1 _ _ _ _ _ _ _ _
      | exact ih2 _ _ _ _ _ _ _ _ _
      | exact ih3 _ _ _ _ _ _ _ _
      | exact ih4 _ _ _ _ _ _ _ _ _ _ _ _
      | exact ih5 _ _ _ _ _ _ _ _ _ _ _ _ _ _ _ _ _ _
      | exact ephemerislaw2_smearWorks.mono _
      | exact ephemerisref2_LeapsErr.mono _ _
      | exact smear_Check.mono _ _ _
      | exact smear_Offset.mono _ _ _ _
      | exact smear_Smear.mono _ _ _ _
      | exact LeO.none _
      | refine LeO.ite ?_ ?_
      | refine LeO.bind ?_ (fun _ => ?_)
    · intro y0 y1 y2 y3 y4 y5 y6 y7 y8 y9 y10 y11 y12 y13 y14 y15 y16 y17
      unfold ephemerislaw2_SmearSmears.j5
      repeat' first
      | (with_reducible exact ih0 _ _ _ _ _ _ _ _ _)
      | (with_reducible exact ih1 _ _ _ _ _ _ _ _)
      | (with_reducible exact ih2 _ _ _ _ _ _ _ _ _)
      | (with_reducible exact ih3 _ _ _ _ _ _ _ _)
      | (with_reducible exact ih4 _ _ _ _ _ _ _ _ _ _ _ _)
      | (with_reducible exact ih5 _ _ _ _ _ _ _ _ _ _ _ _ _ _ _ _ _ _)
      | (with_reducible exact ephemerislaw2_smearWorks.mono _)
      | (with_reducible exact ephemerisref2_LeapsErr.mono _ _)
      | (with_reducible exact smear_Check.mono _ _ _)
      | (with_reducible exact smear_Offset.mono _ _ _ _)
      | (with_reducible exact smear_Smear.mono _ _ _ _)
      | (with_reducible exact LeO.refl _)
      | (with_reducible exact LeO.none _)
      | (with_reducible refine LeO.ite ?_ ?_)
      | (with_reducible refine LeO.bind ?_ (fun _ => ?_))
      | exact ih0 _ _ _ _ _ _ _ _ _
      | exact ih1 _ _ _ _ _ _ _ _
      | exact ih2 _ _ _ _ _ _ _ _ _
      | exact ih3 _ _ _ _ _ _ _ _
      | exact ih4 _ _ _ _ _ _ _ _ _ _ _ _
      | exact ih5 _ _ _ _ _ _ _ _ _ _ _ _ _ _ _ _ _ _
      | exact ephemerislaw2_smearWorks.mono _
      | exact ephemerisref2_LeapsErr.mono _ _
      | exact smear_Check.mono _ _ _
      | exact smear_Offset.mono _ _ _ _
      | exact smear_Smear.mono _ _ _ _
      | exact LeO.none _
      | refine LeO.ite ?_ ?_
      | refine LeO.bind ?_ (fun _ => ?_)
theorem ephemerislaw2_SmearSmears.mono : ∀ a0 a1 a2 k, LeO (ephemerislaw2_SmearSmears.f k a0 a1 a2) (ephemerislaw2_SmearSmears.f (k + 1) a0 a1 a2) := by
  intro a0 a1 a2 k
  obtain ⟨ih0, ih1, ih2, ih3, ih4, ih5⟩ := ephemerislaw2_SmearSmears.mono_l k
  unfold ephemerislaw2_SmearSmears.f
  repeat' first
      | (with_reducible exact ih0 _ _ _ _ _ _ _ _ _)
      | (with_reducible exact ih1 _ _ _ _ _ _ _ _)
      | (with_reducible exact ih2 _ _ _ _ _ _ _ _ _)
      | (with_reducible exact ih3 _ _ _ _ _ _ _ _)
      | (with_reducible exact ih4 _ _ _ _ _ _ _ _ _ _ _ _)
      | (with_reducible exact ih5 _ _ _ _ _ _ _ _ _ _ _ _ _ _ _ _ _ _)
      | (with_reducible exact ephemerislaw2_smearWorks.mono _)
      | (with_reducible exact ephemerisref2_LeapsErr.mono _ _)
      | (with_reducible exact smear_Check.mono _ _ _)
      | (with_reducible exact smear_Offset.mono _ _ _ _)
      | (with_reducible exact smear_Smear.mono _ _ _ _)
      | (with_reducible exact LeO.refl _)
      | (with_reducible exact LeO.none _)
      | (with_reducible refine LeO.ite ?_ ?_)
      | (with_reducible refine LeO.bind ?_ (fun _ => ?_))
      | exact ih0 _ _ _ _ _ _ _ _ _
      | exact ih1 _ _ _ _ _ _ _ _
      | exact ih2 _ _ _ _ _ _ _ _ _
      | exact ih3 _ _ _ _ _ _ _ _
      | exact ih4 _ _ _ _ _ _ _ _ _ _ _ _
      | exact ih5 _ _ _ _ _ _ _ _ _ _ _ _ _ _ _ _ _ _
      | exact ephemerislaw2_smearWorks.mono _
      | exact ephemerisref2_LeapsErr.mono _ _
      | exact smear_Check.mono _ _ _
      | exact smear_Offset.mono _ _ _ _
      | exact smear_Smear.mono _ _ _ _
      | exact LeO.none _
      | refine LeO.ite ?_ ?_
      | refine LeO.bind ?_ (fun _ => ?_)
set_option maxHeartbeats 8000000 in
set_option maxRecDepth 100000 in
theorem ephemerislaw2_SmearSmears.calls (k : Nat) (A0 : Option Addr) (c0 : Nat) (l0 : List (S31)) (a1 : Int) (a2 : Int) (r : Bool) (w : World) (hr0 : Kd.C k31 w A0 l0.length l0) (hc0 : l0.length ≤ c0) (h : ephemerislaw2_SmearSmears.f k l0 a1 a2 = some r) :
    Calls Try.prog 3 #[.slice A0 l0.length c0, .int .i64 a1, .int .i64 a2] w fun e w' => e = .returned (.bool r) ∧ Below w.heap.size w w' := by
  have hu31 := Try.underlying31
  have HR0 := Aside0.mk hr0
  have HC0 := Aside0.mk hc0
  clear hr0 hc0
  have HB := Aside0.mk (Below.refl w.heap.size w)
  have H : ((ephemerislaw2_smearWorks.f k).bind fun t119 => (if t119 = true then ((smear_Smear.f k l0 a1 a2).bind fun bt120 => ((smear_Offset.f k l0 a1 a2).bind fun bt122 => ((ephemerisref2_LeapsErr.f k l0).bind fun t124 => (if t124 = 0 then (if a1 < 1000 then (ephemerislaw2_SmearSmears.j0 k l0 a1 a2 bt120.1 bt120.2 bt122.1 bt122.2 t124 true) else (ephemerislaw2_SmearSmears.j0 k l0 a1 a2 bt120.1 bt120.2 bt122.1 bt122.2 t124 (decide (a1 > 43200000)))) else (ephemerislaw2_SmearSmears.j0 k l0 a1 a2 bt120.1 bt120.2 bt122.1 bt122.2 t124 false))))) else (some false))) = some r := h
  clear h
  replace H := Option.bind_eq_some_iff.mp H
  obtain ⟨t119, A40, H⟩ := H
  replace H : (if t119 = true then ((smear_Smear.f k l0 a1 a2).bind fun bt120 => ((smear_Offset.f k l0 a1 a2).bind fun bt122 => ((ephemerisref2_LeapsErr.f k l0).bind fun t124 => (if t124 = 0 then (if a1 < 1000 then (ephemerislaw2_SmearSmears.j0 k l0 a1 a2 bt120.1 bt120.2 bt122.1 bt122.2 t124 true) else (ephemerislaw2_SmearSmears.j0 k l0 a1 a2 bt120.1 bt120.2 bt122.1 bt122.2 t124 (decide (a1 > 43200000)))) else (ephemerislaw2_SmearSmears.j0 k l0 a1 a2 bt120.1 bt120.2 bt122.1 bt122.2 t124 false))))) else (some false)) = some r := H
  have A4 := Aside0.mk A40
  clear A40
  by_cases c5 : t119 = true
  · subst c5
    have H1 : ((smear_Smear.f k l0 a1 a2).bind fun bt120 => ((smear_Offset.f k l0 a1 a2).bind fun bt122 => ((ephemerisref2_LeapsErr.f k l0).bind fun t124 => (if t124 = 0 then (if a1 < 1000 then (ephemerislaw2_SmearSmears.j0 k l0 a1 a2 bt120.1 bt120.2 bt122.1 bt122.2 t124 true) else (ephemerislaw2_SmearSmears.j0 k l0 a1 a2 bt120.1 bt120.2 bt122.1 bt122.2 t124 (decide (a1 > 43200000)))) else (ephemerislaw2_SmearSmears.j0 k l0 a1 a2 bt120.1 bt120.2 bt122.1 bt122.2 t124 false))))) = some r := by rw [if_pos rfl] at H; exact H
    clear H
    have H := H1
    clear H1
    replace H := Option.bind_eq_some_iff.mp H
    obtain ⟨⟨t120, t121⟩, A60, H⟩ := H
    replace H : ((smear_Offset.f k l0 a1 a2).bind fun bt122 => ((ephemerisref2_LeapsErr.f k l0).bind fun t124 => (if t124 = 0 then (if a1 < 1000 then (ephemerislaw2_SmearSmears.j0 k l0 a1 a2 t120 t121 bt122.1 bt122.2 t124 true) else (ephemerislaw2_SmearSmears.j0 k l0 a1 a2 t120 t121 bt122.1 bt122.2 t124 (decide (a1 > 43200000)))) else (ephemerislaw2_SmearSmears.j0 k l0 a1 a2 t120 t121 bt122.1 bt122.2 t124 false)))) = some r := H
    have A6 := Aside0.mk A60
    clear A60
    replace H := Option.bind_eq_some_iff.mp H
    obtain ⟨⟨t122, t123⟩, A70, H⟩ := H
    replace H : ((ephemerisref2_LeapsErr.f k l0).bind fun t124 => (if t124 = 0 then (if a1 < 1000 then (ephemerislaw2_SmearSmears.j0 k l0 a1 a2 t120 t121 t122 t123 t124 true) else (ephemerislaw2_SmearSmears.j0 k l0 a1 a2 t120 t121 t122 t123 t124 (decide (a1 > 43200000)))) else (ephemerislaw2_SmearSmears.j0 k l0 a1 a2 t120 t121 t122 t123 t124 false))) = some r := H
    have A7 := Aside0.mk A70
    clear A70
    replace H := Option.bind_eq_some_iff.mp H
    obtain ⟨t124, A80, H⟩ := H
    replace H : (if t124 = 0 then (if a1 < 1000 then (ephemerislaw2_SmearSmears.j0 k l0 a1 a2 t120 t121 t122 t123 t124 true) else (ephemerislaw2_SmearSmears.j0 k l0 a1 a2 t120 t121 t122 t123 t124 (decide (a1 > 43200000)))) else (ephemerislaw2_SmearSmears.j0 k l0 a1 a2 t120 t121 t122 t123 t124 false)) = some r := H
    have A8 := Aside0.mk A80
    clear A80
    have HC9 := Aside0.mk H
    clear H
    go_enter Try.func3, Try.ntmps3
    go_upto_region 6 with (first | ((with_reducible refine gate_callee (f := 16) rfl ?_); refine goesL_ (some 20) rfl rfl Try.func16 (by kernel_rfl) rfl #[] rfl (by (try simp only [List.map_toArray, List.map_cons, List.map_nil]); first | done | rfl | (simp only [List.length_drop, List.length_take]; rfl)) ?_; (with_reducible refine (ephemerislaw2_smearWorks.calls k  true _ A4.out).mono ?_); rintro e w10 ⟨rfl, hb⟩; refine ⟨_, rfl, ?_⟩; have n0_ := Aside0.mk (below_step (by repeat (first | (with_reducible first | exact HB.out | apply below_alloc | apply pw_below_drewN | apply below_drew1) | exact HB.out)) hb); clear HB; have HB := n0_; clear n0_; (try clear hb); (try clear hb2); (try clear hk); (try clear hi)) | ((with_reducible refine gate_callee (f := 17) rfl ?_); refine goesL_ (some 26) rfl rfl Try.func17 (by kernel_rfl) rfl #[.slice A0 l0.length c0, .int .i64 a1, .int .i64 a2] rfl (by (try simp only [List.map_toArray, List.map_cons, List.map_nil]); first | done | rfl | (simp only [List.length_drop, List.length_take]; rfl)) ?_; (with_reducible refine (smear_Smear.calls k _ _ l0 a1 a2 t120 t121 _ ?side1 ?side2 A6.out).mono ?_); (case side1 => repeat (first | exact (Kd.C_below HR0.out HB.out) | (with_reducible refine Kd.C_alloc ?_ _) | (with_reducible refine Kd.C_drewN ?_ _) | (with_reducible refine Kd.C_drew ?_))); (case side2 => exact HC0.out); rintro e w11 ⟨rfl, hb⟩; refine ⟨_, rfl, ?_⟩; have n0_ := Aside0.mk (below_step (by repeat (first | (with_reducible first | exact HB.out | apply below_alloc | apply pw_below_drewN | apply below_drew1) | exact HB.out)) hb); clear HB; have HB := n0_; clear n0_; (try clear hb); (try clear hb2); (try clear hk); (try clear hi)) | ((with_reducible refine gate_callee (f := 18) rfl ?_); refine goesL_ (some 33) rfl rfl Try.func18 (by kernel_rfl) rfl #[.slice A0 l0.length c0, .int .i64 a1, .int .i64 a2] rfl (by (try simp only [List.map_toArray, List.map_cons, List.map_nil]); first | done | rfl | (simp only [List.length_drop, List.length_take]; rfl)) ?_; (with_reducible refine (smear_Offset.calls k _ _ l0 a1 a2 t122 t123 _ ?side1 ?side2 A7.out).mono ?_); (case side1 => repeat (first | exact (Kd.C_below HR0.out HB.out) | (with_reducible refine Kd.C_alloc ?_ _) | (with_reducible refine Kd.C_drewN ?_ _) | (with_reducible refine Kd.C_drew ?_))); (case side2 => exact HC0.out); rintro e w12 ⟨rfl, hb⟩; refine ⟨_, rfl, ?_⟩; have n0_ := Aside0.mk (below_step (by repeat (first | (with_reducible first | exact HB.out | apply below_alloc | apply pw_below_drewN | apply below_drew1) | exact HB.out)) hb); clear HB; have HB := n0_; clear n0_; (try clear hb); (try clear hb2); (try clear hk); (try clear hi)) | ((with_reducible refine gate_callee (f := 19) rfl ?_); refine goesL_ (some 37) rfl rfl Try.func19 (by kernel_rfl) rfl #[.slice A0 l0.length c0] rfl (by (try simp only [List.map_toArray, List.map_cons, List.map_nil]); first | done | rfl | (simp only [List.length_drop, List.length_take]; rfl)) ?_; (with_reducible refine (ephemerisref2_LeapsErr.calls k _ _ l0 t124 _ ?side1 ?side2 A8.out).mono ?_); (case side1 => repeat (first | exact (Kd.C_below HR0.out HB.out) | (with_reducible refine Kd.C_alloc ?_ _) | (with_reducible refine Kd.C_drewN ?_ _) | (with_reducible refine Kd.C_drew ?_))); (case side2 => exact HC0.out); rintro e w13 ⟨rfl, hb⟩; refine ⟨_, rfl, ?_⟩; have n0_ := Aside0.mk (below_step (by repeat (first | (with_reducible first | exact HB.out | apply below_alloc | apply pw_below_drewN | apply below_drew1) | exact HB.out)) hb); clear HB; have HB := n0_; clear n0_; (try clear hb); (try clear hb2); (try clear hk); (try clear hi)))
    (try simp only [Act.put, List.setIfInBounds_toArray, List.set_cons_zero, List.set_cons_succ])
    go_cut [47] (fun v47 wc => ∃ (kq : Nat) (x47_8 : Bool), v47 = .bool x47_8 ∧ Aside0 (ephemerislaw2_SmearSmears.j0 kq l0 a1 a2 t120 t121 t122 t123 t124 x47_8 = some r) ∧ Aside0 (kq ≤ k) ∧ Aside0 (Below w.heap.size w wc))
    case first =>
      have H := HC9.out
      clear HC9
      by_cases c14 : t124 = 0
      · rw [if_pos c14] at H
        have c14b0 : (t124 == 0) = true := beq_iff_eq.mpr c14
        have c14b1 : (t124 != 0) = false := bne_eq_false_iff_eq.mpr c14
        clear c14
        (first | rw [c14b0] | (simp only [i64_w, i32_w]; rw [c14b0]) | skip)
        by_cases c15 : a1 < 1000
        · rw [if_pos c15] at H
          have c15b0 : decide (a1 < 1000) = true := decide_eq_true c15
          clear c15
          have H' := Aside0.mk H
          clear H
          go_wp2
          go_meet
          case rel => exact ⟨_, (true), (by first | rfl | (simp; done) | (simp [*]; done)), H', ⟨by first | omega | exact Nat.le_refl _⟩, ⟨by repeat (first | (with_reducible first | exact HB.out | apply below_alloc | apply pw_below_drewN | apply below_drew1) | exact HB.out)⟩⟩
        · rw [if_neg c15] at H
          have c15b0 : decide (a1 < 1000) = false := decide_eq_false c15
          clear c15
          have H' := Aside0.mk H
          clear H
          go_wp2
          go_meet
          case rel => exact ⟨_, (decide (a1 > 43200000)), (by first | rfl | (simp; done) | (simp [*]; done)), H', ⟨by first | omega | exact Nat.le_refl _⟩, ⟨by repeat (first | (with_reducible first | exact HB.out | apply below_alloc | apply pw_below_drewN | apply below_drew1) | exact HB.out)⟩⟩
      · rw [if_neg c14] at H
        have c14b0 : (t124 == 0) = false := beq_eq_false_iff_ne.mpr c14
        have c14b1 : (t124 != 0) = true := bne_iff_ne.mpr c14
        (first | rw [c14b0] | (simp only [i64_w, i32_w]; rw [c14b0]) | skip)
        have H' := Aside0.mk H
        clear H
        go_wp2
        go_meet
        case rel => exact ⟨_, (false), (by first | rfl | (simp; done) | (simp [*]; done)), H', ⟨by first | omega | exact Nat.le_refl _⟩, ⟨by repeat (first | (with_reducible first | exact HB.out | apply below_alloc | apply pw_below_drewN | apply below_drew1) | exact HB.out)⟩⟩
    case rest =>
      clear HC9
      try clear c1
      try clear p2
      try clear c3
      try clear c5
      try clear c14
      try clear c14b0
      try clear c14b1
      try clear c15
      try clear c15b0
      obtain ⟨kq, x47_8, rfl, HA, HJ8, HB⟩ := hcut
      cases kq with
      | zero => exact absurd HA.out (by simp [ephemerislaw2_SmearSmears.j0])
      | succ kj8 =>
        have H := HA.out
        clear HA
        simp only [ephemerislaw2_SmearSmears.j0] at H
        have HC16 := Aside0.mk H
        clear H
        go_upto_if 47 with (fail)
        go_cut [11] (fun v11 wc => ∃ (kq : Nat) (x11_15 : Int), v11 = .int .i64 x11_15 ∧ Aside0 (ephemerislaw2_SmearSmears.j1 kq l0 a1 a2 t120 t121 t122 t123 x11_15 = some r) ∧ Aside0 (kq ≤ kj8) ∧ Aside0 (Below w.heap.size w wc))
        case first =>
          have H := HC16.out
          clear HC16
          by_cases c17 : x47_8 = true
          · subst c17
            have H1 : (ephemerislaw2_SmearSmears.j1 kj8 l0 a1 a2 t120 t121 t122 t123 1) = some r := by rw [if_pos rfl] at H; exact H
            clear H
            have H := H1
            clear H1
            have H' := Aside0.mk H
            clear H
            go_wp2
            go_meet
            case rel => exact ⟨_, (1), (by first | rfl | (simp; done) | (simp [*]; done)), H', ⟨by have := HJ8.out; first | omega | exact Nat.le_refl _⟩, ⟨by repeat (first | (with_reducible first | exact HB.out | apply below_alloc | apply pw_below_drewN | apply below_drew1) | exact HB.out)⟩⟩
          · replace c17 := Bool.eq_false_iff.mpr c17
            subst c17
            have H1 : (ephemerislaw2_SmearSmears.j1 kj8 l0 a1 a2 t120 t121 t122 t123 t124) = some r := by rw [if_neg (show ¬ (false = true) by decide)] at H; exact H
            clear H
            have H := H1
            clear H1
            have H' := Aside0.mk H
            clear H
            go_wp2
            go_meet
            case rel => exact ⟨_, (t124), (by first | rfl | (simp; done) | (simp [*]; done)), H', ⟨by have := HJ8.out; first | omega | exact Nat.le_refl _⟩, ⟨by repeat (first | (with_reducible first | exact HB.out | apply below_alloc | apply pw_below_drewN | apply below_drew1) | exact HB.out)⟩⟩
        case rest =>
          clear HC16
          try clear c1
          try clear p2
          try clear c3
          try clear c5
          try clear c14
          try clear c14b0
          try clear c14b1
          try clear c15
          try clear c15b0
          try clear c16
          try clear c17
          try clear p2
          obtain ⟨kq, x11_15, rfl, HA, HJ15, HB⟩ := hcut
          cases kq with
          | zero => exact absurd HA.out (by simp [ephemerislaw2_SmearSmears.j1])
          | succ kj15 =>
            have H := HA.out
            clear HA
            simp only [ephemerislaw2_SmearSmears.j1] at H
            replace H := Option.bind_eq_some_iff.mp H
            obtain ⟨t125, A180, H⟩ := H
            replace H : (if t125 = x11_15 then (if x11_15 = 0 then ((ephemerislaw2_beyond.f a2 400000000000000).bind fun t126 => (ephemerislaw2_SmearSmears.j2 kj15 l0 a1 a2 t120 t121 t122 t123 x11_15 t126)) else (ephemerislaw2_SmearSmears.j2 kj15 l0 a1 a2 t120 t121 t122 t123 x11_15 false)) else (some false)) = some r := H
            have A18 := Aside0.mk A180
            clear A180
            by_cases c19 : t125 = x11_15
            · rw [if_pos c19] at H
              have c19b0 : (t125 == x11_15) = true := beq_iff_eq.mpr c19
              have c19b1 : (t125 != x11_15) = false := bne_eq_false_iff_eq.mpr c19
              clear c19
              have HC20 := Aside0.mk H
              clear H
              go_upto_region 10 with (first | ((with_reducible refine gate_callee (f := 20) rfl ?_); refine goesL_ (some 50) rfl rfl Try.func20 (by kernel_rfl) rfl #[.slice A0 l0.length c0, .int .i64 a1] rfl (by (try simp only [List.map_toArray, List.map_cons, List.map_nil]); first | done | rfl | (simp only [List.length_drop, List.length_take]; rfl)) ?_; (with_reducible refine (smear_Check.calls kj15 _ _ l0 a1 t125 _ ?side1 ?side2 A18.out).mono ?_); (case side1 => repeat (first | exact (Kd.C_below HR0.out HB.out) | (with_reducible refine Kd.C_alloc ?_ _) | (with_reducible refine Kd.C_drewN ?_ _) | (with_reducible refine Kd.C_drew ?_))); (case side2 => exact HC0.out); rintro e w21 ⟨rfl, hb⟩; refine ⟨_, rfl, ?_⟩; have n0_ := Aside0.mk (below_step (by repeat (first | (with_reducible first | exact HB.out | apply below_alloc | apply pw_below_drewN | apply below_drew1) | exact HB.out)) hb); clear HB; have HB := n0_; clear n0_; (try clear hb); (try clear hb2); (try clear hk); (try clear hi)))
              (try simp only [Act.put, List.setIfInBounds_toArray, List.set_cons_zero, List.set_cons_succ])
              go_cut [58] (fun v58 wc => ∃ (kq : Nat) (x58_19 : Bool), v58 = .bool x58_19 ∧ Aside0 (ephemerislaw2_SmearSmears.j2 kq l0 a1 a2 t120 t121 t122 t123 x11_15 x58_19 = some r) ∧ Aside0 (kq ≤ kj15) ∧ Aside0 (Below w.heap.size w wc))
              case first =>
                have H := HC20.out
                clear HC20
                by_cases c22 : x11_15 = 0
                · rw [if_pos c22] at H
                  have c22b0 : (x11_15 == 0) = true := beq_iff_eq.mpr c22
                  have c22b1 : (x11_15 != 0) = false := bne_eq_false_iff_eq.mpr c22
                  clear c22
                  (first | rw [c22b0] | (simp only [i64_w, i32_w]; rw [c22b0]) | skip)
                  replace H := Option.bind_eq_some_iff.mp H
                  obtain ⟨t126, A230, H⟩ := H
                  replace H : (ephemerislaw2_SmearSmears.j2 kj15 l0 a1 a2 t120 t121 t122 t123 x11_15 t126) = some r := H
                  have A23 := Aside0.mk A230
                  clear A230
                  have H' := Aside0.mk H
                  clear H
                  go_wp2_with (first | (go_at_call 21; (with_reducible refine (ephemerislaw2_beyond.calls a2 400000000000000 t126 _ A23.out).mono ?_); rintro e w' ⟨rfl, ⟨nd, rfl⟩⟩))
                  go_meet
                  case rel => exact ⟨_, (t126), (by first | rfl | (simp; done) | (simp [*]; done)), H', ⟨by have := HJ8.out; have := HJ15.out; first | omega | exact Nat.le_refl _⟩, ⟨by repeat (first | (with_reducible first | exact HB.out | apply below_alloc | apply pw_below_drewN | apply below_drew1) | exact HB.out)⟩⟩
                · rw [if_neg c22] at H
                  have c22b0 : (x11_15 == 0) = false := beq_eq_false_iff_ne.mpr c22
                  have c22b1 : (x11_15 != 0) = true := bne_iff_ne.mpr c22
                  (first | rw [c22b0] | (simp only [i64_w, i32_w]; rw [c22b0]) | skip)
                  have H' := Aside0.mk H
                  clear H
                  go_wp2
                  go_meet
                  case rel => exact ⟨_, (false), (by first | rfl | (simp; done) | (simp [*]; done)), H', ⟨by have := HJ8.out; have := HJ15.out; first | omega | exact Nat.le_refl _⟩, ⟨by repeat (first | (with_reducible first | exact HB.out | apply below_alloc | apply pw_below_drewN | apply below_drew1) | exact HB.out)⟩⟩
              case rest =>
                clear HC20
                try clear c1
                try clear c2
                try clear p2
                try clear c3
                try clear c5
                try clear c14
                try clear c14b0
                try clear c14b1
                try clear c15
                try clear c15b0
                try clear c16
                try clear c17
                try clear c18
                try clear c19
                try clear c19b0
                try clear c19b1
                try clear c20
                try clear c22
                try clear c22b0
                try clear c22b1
                try clear p2
                obtain ⟨kq, x58_19, rfl, HA, HJ19, HB⟩ := hcut
                cases kq with
                | zero => exact absurd HA.out (by simp [ephemerislaw2_SmearSmears.j2])
                | succ kj19 =>
                  have H := HA.out
                  clear HA
                  simp only [ephemerislaw2_SmearSmears.j2] at H
                  have HC24 := Aside0.mk H
                  clear H
                  go_upto_if 58 with (fail)
                  go_cut [11] (fun v11 wc => ∃ (kq : Nat) (x11_23 : Int), v11 = .int .i64 x11_23 ∧ Aside0 (ephemerislaw2_SmearSmears.j3 kq l0 a1 a2 t120 t121 t122 t123 x11_23 = some r) ∧ Aside0 (kq ≤ kj19) ∧ Aside0 (Below w.heap.size w wc))
                  case first =>
                    have H := HC24.out
                    clear HC24
                    by_cases c25 : x58_19 = true
                    · subst c25
                      have H1 : (ephemerislaw2_SmearSmears.j3 kj19 l0 a1 a2 t120 t121 t122 t123 3) = some r := by rw [if_pos rfl] at H; exact H
                      clear H
                      have H := H1
                      clear H1
                      have H' := Aside0.mk H
                      clear H
                      go_wp2
                      go_meet
                      case rel => exact ⟨_, (3), (by first | rfl | (simp; done) | (simp [*]; done)), H', ⟨by have := HJ8.out; have := HJ15.out; have := HJ19.out; first | omega | exact Nat.le_refl _⟩, ⟨by repeat (first | (with_reducible first | exact HB.out | apply below_alloc | apply pw_below_drewN | apply below_drew1) | exact HB.out)⟩⟩
                    · replace c25 := Bool.eq_false_iff.mpr c25
                      subst c25
                      have H1 : (ephemerislaw2_SmearSmears.j3 kj19 l0 a1 a2 t120 t121 t122 t123 x11_15) = some r := by rw [if_neg (show ¬ (false = true) by decide)] at H; exact H
                      clear H
                      have H := H1
                      clear H1
                      have H' := Aside0.mk H
                      clear H
                      go_wp2
                      go_meet
                      case rel => exact ⟨_, (x11_15), (by first | rfl | (simp; done) | (simp [*]; done)), H', ⟨by have := HJ8.out; have := HJ15.out; have := HJ19.out; first | omega | exact Nat.le_refl _⟩, ⟨by repeat (first | (with_reducible first | exact HB.out | apply below_alloc | apply pw_below_drewN | apply below_drew1) | exact HB.out)⟩⟩
                  case rest =>
                    clear HC24
                    try clear c1
                    try clear c2
                    try clear p2
                    try clear c3
                    try clear c5
                    try clear c14
                    try clear c14b0
                    try clear c14b1
                    try clear c15
                    try clear c15b0
                    try clear c16
                    try clear c17
                    try clear c18
                    try clear c19
                    try clear c19b0
                    try clear c19b1
                    try clear c20
                    try clear c22
                    try clear c22b0
                    try clear c22b1
                    try clear c25
                    try clear p2
                    obtain ⟨kq, x11_23, rfl, HA, HJ23, HB⟩ := hcut
                    cases kq with
                    | zero => exact absurd HA.out (by simp [ephemerislaw2_SmearSmears.j3])
                    | succ kj23 =>
                      have H := HA.out
                      clear HA
                      simp only [ephemerislaw2_SmearSmears.j3] at H
                      by_cases c26 : x11_23 = 0
                      · rw [if_pos c26] at H
                        have c26b0 : (x11_23 == 0) = true := beq_iff_eq.mpr c26
                        have c26b1 : (x11_23 != 0) = false := bne_eq_false_iff_eq.mpr c26
                        clear c26
                        have H' := Aside0.mk H
                        clear H
                        go_wp2
                        go_loopg [12, 13, 14, 79] kj23 (fun kq v12 v13 v14 v79 w' => ∃ (x12_5 : Int) (x13_5 : Int) (x14_5 : Bool) (x79_5 : Int), v12 = .int .i64 x12_5 ∧ v13 = .int .i64 x13_5 ∧ v14 = .bool x14_5 ∧ v79 = .int .i64 x79_5 ∧ Aside0 (ephemerislaw2_SmearSmears.l0 kq a1 a2 t120 t121 t122 t123 x12_5 x13_5 x14_5 l0 (l0.length : Int) x79_5 = some r) ∧ Aside0 (kq ≤ kj23) ∧ Aside0 (Below w.heap.size w w'))
                        case atStart => exact ⟨(0), (0), (false), (0), (by first | rfl | (simp; done) | (simp [*]; done)), (by first | rfl | (simp; done) | (simp [*]; done)), (by first | rfl | (simp; done) | (simp [*]; done)), (by first | rfl | (simp; done) | (simp [*]; done)), H', ⟨Nat.le_refl _⟩, ⟨by repeat (first | (with_reducible first | exact HB.out | apply below_alloc | apply pw_below_drewN | apply below_drew1) | exact HB.out)⟩⟩
                        case round =>
                          clear H'
                          try clear c1
                          try clear c2
                          try clear p2
                          try clear c3
                          try clear c5
                          try clear c14
                          try clear c14b0
                          try clear c14b1
                          try clear c15
                          try clear c15b0
                          try clear c16
                          try clear c17
                          try clear c18
                          try clear c19
                          try clear c19b0
                          try clear c19b1
                          try clear c20
                          try clear c22
                          try clear c22b0
                          try clear c22b1
                          try clear c25
                          try clear c26
                          try clear c26b0
                          try clear c26b1
                          try clear p2
                          obtain ⟨x12_5, x13_5, x14_5, x79_5, rfl, rfl, rfl, rfl, HA, HK5, HB⟩ := hrel
                          cases gk with
                          | zero => exact absurd HA.out (by simp [ephemerislaw2_SmearSmears.l0])
                          | succ k5 =>
                            have H := HA.out
                            clear HA
                            simp only [ephemerislaw2_SmearSmears.l0] at H
                            by_cases c27 : x79_5 < (l0.length : Int)
                            · rw [if_pos c27] at H
                              have c27b0 : decide (x79_5 < (l0.length : Int)) = true := decide_eq_true c27
                              clear c27
                              by_cases c28 : 0 ≤ x79_5
                              · rw [if_pos c28] at H
                                have c28b0 : decide (0 ≤ x79_5) = true := decide_eq_true c28
                                clear c28
                                by_cases c29 : x79_5 < (l0.length : Int)
                                · rw [if_pos c29] at H
                                  have c29b0 : decide (x79_5 < (l0.length : Int)) = true := decide_eq_true c29
                                  clear c29
                                  have HC30 := Aside0.mk H
                                  clear H
                                  have p127 : 0 ≤ (x79_5 : Int) := of_decide_eq_true (by first | (with_reducible assumption) | assumption)
                                  have q127 : x79_5 < (l0.length : Int) := of_decide_eq_true (by first | (with_reducible assumption) | assumption)
                                  obtain ⟨ad127, e127, hx127_0, hx127_1⟩ := at_T31 HR0.out x79_5 p127 q127
                                  cases e127
                                  replace hx127_0 := (HB.out.cell (World.block_lt_of_cell? w _ hx127_0)).trans hx127_0
                                  replace hx127_1 := (HB.out.cell (World.block_lt_of_cell? w _ hx127_1)).trans hx127_1
                                  replace p127 := eq_true p127
                                  replace q127 := eq_true q127
                                  go_upto_region 21 with (first | ((with_reducible refine gate_dst (N := 16) rfl ?_); refine box_event ?hg (N := 16) ?hd (cs := #[.int .i64 0, .int .i64 0]) (t := 31) ?hr ?_; (case hd => rfl); (case hg => rfl); (case hr => first | (go_simp; done) | (go_simp; rfl)); intro gb128 hg w31 hbox hb; have n0_ := Aside0.mk (below_step (by repeat (first | (with_reducible first | exact HB.out | apply below_alloc | apply pw_below_drewN | apply below_drew1) | exact HB.out)) hb); have n1_ := Aside0.mk (hbox); have n2_ := Aside0.mk ((by rw [hg]; exact (below_size (by repeat (first | (with_reducible first | exact HB.out | apply below_alloc | apply pw_below_drewN | apply below_drew1) | exact HB.out))) : w.heap.size ≤ gb128)); have n3_ := Aside0.mk ((by rw [hg]; exact (below_size (by repeat (first | (with_reducible first | exact HB.out | apply below_alloc | apply pw_below_drewN | apply below_drew1) | exact HB.out))) : w.heap.size ≤ gb128)); clear HB; have HB := n0_; have BK128 := n1_; have GW128 := n2_; have GE128 := n3_; clear n0_ n1_ n2_ n3_; clear hb hbox hg; have hcz32_0 : w31.cell? ⟨gb128, 0, none⟩ = some (.int .i64 0) := (blk_cell BK128.out 0).trans rfl; have hcz32_1 : w31.cell? ⟨gb128, 1, none⟩ = some (.int .i64 0) := (blk_cell BK128.out 1).trans rfl; have hfz32_0 := blk_frozen BK128.out 0; have hfz32_1 := blk_frozen BK128.out 1))
                                  (try simp only [Act.put, List.setIfInBounds_toArray, List.set_cons_zero, List.set_cons_succ])
                                  go_cut [108] (fun v108 wc => ∃ (kq : Nat) (x108_29 : Bool), v108 = .bool x108_29 ∧ Aside0 (ephemerislaw2_SmearSmears.j5 kq a1 a2 t120 t121 t122 t123 x12_5 x13_5 x14_5 (wrap64 ((wrap64 ((wrap64 (((rd_T31 l0 x79_5).f0) + 1)) * 86400000)) - a1)) (wrap64 ((wrap64 (2 * a1)) + (wrap64 (1000 * ((rd_T31 l0 x79_5).f1))))) (wrap64 ((wrap64 ((wrap64 ((wrap64 (((rd_T31 l0 x79_5).f0) + 1)) * 86400000)) - a1)) + (wrap64 (1000 * x12_5)))) l0 (l0.length : Int) x79_5 x108_29 ((rd_T31 l0 x79_5).f0) ((rd_T31 l0 x79_5).f1) = some r) ∧ Aside0 (kq ≤ k5) ∧ Aside0 (wc.heap[gb128]? = some (.cells #[.int .i64 ((rd_T31 l0 x79_5).f0), .int .i64 ((rd_T31 l0 x79_5).f1)] 31 (0, 0))) ∧ Aside0 (Below w.heap.size w wc))
                                  case first =>
                                    have H := HC30.out
                                    clear HC30
                                    by_cases c33 : a2 ≥ (wrap64 ((wrap64 ((wrap64 ((wrap64 (((rd_T31 l0 x79_5).f0) + 1)) * 86400000)) - a1)) + (wrap64 (1000 * x12_5))))
                                    · rw [if_pos c33] at H
                                      have c33b0 : decide ((wrap64 ((wrap64 ((wrap64 ((wrap64 (((rd_T31 l0 x79_5).f0) + 1)) * 86400000)) - a1)) + (wrap64 (1000 * x12_5)))) ≤ a2) = true := decide_eq_true c33
                                      clear c33
                                      (first | rw [c33b0] | (simp only [i64_w, i32_w]; rw [c33b0]) | skip)
                                      have H' := Aside0.mk H
                                      clear H
                                      go_wp2
                                      go_meet
                                      case rel => exact ⟨_, (decide (a2 < (wrap64 ((wrap64 ((wrap64 ((wrap64 ((wrap64 (((rd_T31 l0 x79_5).f0) + 1)) * 86400000)) - a1)) + (wrap64 (1000 * x12_5)))) + (wrap64 ((wrap64 (2 * a1)) + (wrap64 (1000 * ((rd_T31 l0 x79_5).f1))))))))), (by first | rfl | (simp; done) | (simp [*]; done)), H', ⟨by have := HJ8.out; have := HJ15.out; have := HJ19.out; have := HJ23.out; have := HK5.out; first | omega | exact Nat.le_refl _⟩, ⟨by (with_reducible repeat (first | refine blk_drewN ?_ _ | refine blk_drew ?_ | refine blk_alloc ?_ _)); refine blk_put (cs := #[.int .i64 ((rd_T31 l0 x79_5).f0), .int .i64 0]) ?_ 1 _ rfl; (with_reducible repeat (first | refine blk_drewN ?_ _ | refine blk_drew ?_ | refine blk_alloc ?_ _)); refine blk_put (cs := #[.int .i64 0, .int .i64 0]) ?_ 0 _ rfl; (with_reducible repeat (first | refine blk_drewN ?_ _ | refine blk_drew ?_ | refine blk_alloc ?_ _)); exact BK128.out⟩, ⟨by repeat (first | (with_reducible first | exact HB.out | apply below_alloc | apply pw_below_drewN | apply below_drew1 | refine below_set ?_ GE128.out) | exact HB.out)⟩⟩
                                    · rw [if_neg c33] at H
                                      have c33b0 : decide ((wrap64 ((wrap64 ((wrap64 ((wrap64 (((rd_T31 l0 x79_5).f0) + 1)) * 86400000)) - a1)) + (wrap64 (1000 * x12_5)))) ≤ a2) = false := decide_eq_false c33
                                      clear c33
                                      (first | rw [c33b0] | (simp only [i64_w, i32_w]; rw [c33b0]) | skip)
                                      have H' := Aside0.mk H
                                      clear H
                                      go_wp2
                                      go_meet
                                      case rel => exact ⟨_, (false), (by first | rfl | (simp; done) | (simp [*]; done)), H', ⟨by have := HJ8.out; have := HJ15.out; have := HJ19.out; have := HJ23.out; have := HK5.out; first | omega | exact Nat.le_refl _⟩, ⟨by (with_reducible repeat (first | refine blk_drewN ?_ _ | refine blk_drew ?_ | refine blk_alloc ?_ _)); refine blk_put (cs := #[.int .i64 ((rd_T31 l0 x79_5).f0), .int .i64 0]) ?_ 1 _ rfl; (with_reducible repeat (first | refine blk_drewN ?_ _ | refine blk_drew ?_ | refine blk_alloc ?_ _)); refine blk_put (cs := #[.int .i64 0, .int .i64 0]) ?_ 0 _ rfl; (with_reducible repeat (first | refine blk_drewN ?_ _ | refine blk_drew ?_ | refine blk_alloc ?_ _)); exact BK128.out⟩, ⟨by repeat (first | (with_reducible first | exact HB.out | apply below_alloc | apply pw_below_drewN | apply below_drew1 | refine below_set ?_ GE128.out) | exact HB.out)⟩⟩
                                  case rest =>
                                    clear HC30
                                    try clear c1
                                    try clear p1
                                    try clear q1
                                    try clear hx1
                                    try clear c2
                                    try clear p2
                                    try clear c3
                                    try clear c5
                                    try clear p6
                                    try clear p12
                                    try clear q12
                                    try clear hx12
                                    try clear c14
                                    try clear c14b0
                                    try clear c14b1
                                    try clear c15
                                    try clear c15b0
                                    try clear c16
                                    try clear c17
                                    try clear c18
                                    try clear c19
                                    try clear c19b0
                                    try clear c19b1
                                    try clear c20
                                    try clear c22
                                    try clear c22b0
                                    try clear c22b1
                                    try clear c25
                                    try clear c26
                                    try clear c26b0
                                    try clear c26b1
                                    try clear c27
                                    try clear c27b0
                                    try clear c28
                                    try clear c28b0
                                    try clear c29
                                    try clear c29b0
                                    try clear c33
                                    try clear c33b0
                                    try clear hcz32_0
                                    try clear hcz32_1
                                    try clear hfz32_0
                                    try clear hfz32_1
                                    try clear hx127_0
                                    try clear hx127_1
                                    try clear p127
                                    try clear p2
                                    try clear q127
                                    obtain ⟨kq, x108_29, rfl, HA, HJ29, BK128, HB⟩ := hcut
                                    cases kq with
                                    | zero => exact absurd HA.out (by simp [ephemerislaw2_SmearSmears.j5])
                                    | succ kj29 =>
                                      have H := HA.out
                                      clear HA
                                      simp only [ephemerislaw2_SmearSmears.j5] at H
                                      by_cases c34 : x108_29 = true
                                      · subst c34
                                        have H1 : (if (wrap64 ((wrap64 (2 * a1)) + (wrap64 (1000 * ((rd_T31 l0 x79_5).f1))))) = 0 then (none) else (if a2 ≥ (wrap64 ((wrap64 ((wrap64 ((wrap64 ((wrap64 (((rd_T31 l0 x79_5).f0) + 1)) * 86400000)) - a1)) + (wrap64 (1000 * x12_5)))) + (wrap64 ((wrap64 (2 * a1)) + (wrap64 (1000 * ((rd_T31 l0 x79_5).f1))))))) then (ephemerislaw2_SmearSmears.l0 kj29 a1 a2 t120 t121 t122 t123 (wrap64 (x12_5 + ((rd_T31 l0 x79_5).f1))) (wrap64 ((wrap64 ((wrap64 ((wrap64 (((rd_T31 l0 x79_5).f0) + 1)) * 86400000)) - a1)) + (wrap64 (Int.tdiv (wrap64 ((wrap64 ((wrap64 (a2 - (wrap64 ((wrap64 ((wrap64 ((wrap64 (((rd_T31 l0 x79_5).f0) + 1)) * 86400000)) - a1)) + (wrap64 (1000 * x12_5)))))) * 2)) * a1)) (wrap64 ((wrap64 (2 * a1)) + (wrap64 (1000 * ((rd_T31 l0 x79_5).f1))))))))) true l0 (l0.length : Int) (wrap64 (x79_5 + 1))) else (ephemerislaw2_SmearSmears.l0 kj29 a1 a2 t120 t121 t122 t123 x12_5 (wrap64 ((wrap64 ((wrap64 ((wrap64 (((rd_T31 l0 x79_5).f0) + 1)) * 86400000)) - a1)) + (wrap64 (Int.tdiv (wrap64 ((wrap64 ((wrap64 (a2 - (wrap64 ((wrap64 ((wrap64 ((wrap64 (((rd_T31 l0 x79_5).f0) + 1)) * 86400000)) - a1)) + (wrap64 (1000 * x12_5)))))) * 2)) * a1)) (wrap64 ((wrap64 (2 * a1)) + (wrap64 (1000 * ((rd_T31 l0 x79_5).f1))))))))) true l0 (l0.length : Int) (wrap64 (x79_5 + 1))))) = some r := by rw [if_pos rfl] at H; exact H
                                        clear H
                                        have H := H1
                                        clear H1
                                        by_cases c35 : (wrap64 ((wrap64 (2 * a1)) + (wrap64 (1000 * ((rd_T31 l0 x79_5).f1))))) = 0
                                        · rw [if_pos c35] at H
                                          exact absurd H (by simp)
                                        · rw [if_neg c35] at H
                                          have c35b0 : ((wrap64 ((wrap64 (2 * a1)) + (wrap64 (1000 * ((rd_T31 l0 x79_5).f1))))) == 0) = false := beq_eq_false_iff_ne.mpr c35
                                          have c35b1 : ((wrap64 ((wrap64 (2 * a1)) + (wrap64 (1000 * ((rd_T31 l0 x79_5).f1))))) != 0) = true := bne_iff_ne.mpr c35
                                          by_cases c36 : a2 ≥ (wrap64 ((wrap64 ((wrap64 ((wrap64 ((wrap64 (((rd_T31 l0 x79_5).f0) + 1)) * 86400000)) - a1)) + (wrap64 (1000 * x12_5)))) + (wrap64 ((wrap64 (2 * a1)) + (wrap64 (1000 * ((rd_T31 l0 x79_5).f1)))))))
                                          · rw [if_pos c36] at H
                                            have c36b0 : decide ((wrap64 ((wrap64 ((wrap64 ((wrap64 ((wrap64 (((rd_T31 l0 x79_5).f0) + 1)) * 86400000)) - a1)) + (wrap64 (1000 * x12_5)))) + (wrap64 ((wrap64 (2 * a1)) + (wrap64 (1000 * ((rd_T31 l0 x79_5).f1))))))) ≤ a2) = true := decide_eq_true c36
                                            clear c36
                                            have H' := Aside0.mk H
                                            clear H
                                            have hcz37_0 : wc.cell? ⟨gb128, 0, none⟩ = some (.int .i64 ((rd_T31 l0 x79_5).f0)) := (blk_cell BK128.out 0).trans rfl
                                            have hcz37_1 : wc.cell? ⟨gb128, 1, none⟩ = some (.int .i64 ((rd_T31 l0 x79_5).f1)) := (blk_cell BK128.out 1).trans rfl
                                            have hfz37_0 := blk_frozen BK128.out 0
                                            have hfz37_1 := blk_frozen BK128.out 1
                                            go_wp2
                                            go_roundg kj29
                                            case measure => have := HJ8.out; have := HJ15.out; have := HJ19.out; have := HJ23.out; have := HK5.out; have := HJ29.out; omega
                                            case rel => exact ⟨(wrap64 (x12_5 + ((rd_T31 l0 x79_5).f1))), (wrap64 ((wrap64 ((wrap64 ((wrap64 (((rd_T31 l0 x79_5).f0) + 1)) * 86400000)) - a1)) + (wrap64 (Int.tdiv (wrap64 ((wrap64 ((wrap64 (a2 - (wrap64 ((wrap64 ((wrap64 ((wrap64 (((rd_T31 l0 x79_5).f0) + 1)) * 86400000)) - a1)) + (wrap64 (1000 * x12_5)))))) * 2)) * a1)) (wrap64 ((wrap64 (2 * a1)) + (wrap64 (1000 * ((rd_T31 l0 x79_5).f1))))))))), (true), (wrap64 (x79_5 + 1)), (by first | rfl | (simp; done) | (simp [*]; done)), (by first | rfl | (simp; done) | (simp [*]; done)), (by first | rfl | (simp; done) | (simp [*]; done)), (by first | rfl | (simp; done) | (simp [*]; done)), H', ⟨by have := HJ8.out; have := HJ15.out; have := HJ19.out; have := HJ23.out; have := HK5.out; have := HJ29.out; omega⟩, ⟨by repeat (first | (with_reducible first | exact HB.out | apply below_alloc | apply pw_below_drewN | apply below_drew1 | refine below_set ?_ GE128.out) | exact HB.out)⟩⟩
                                          · rw [if_neg c36] at H
                                            have c36b0 : decide ((wrap64 ((wrap64 ((wrap64 ((wrap64 ((wrap64 (((rd_T31 l0 x79_5).f0) + 1)) * 86400000)) - a1)) + (wrap64 (1000 * x12_5)))) + (wrap64 ((wrap64 (2 * a1)) + (wrap64 (1000 * ((rd_T31 l0 x79_5).f1))))))) ≤ a2) = false := decide_eq_false c36
                                            clear c36
                                            have H' := Aside0.mk H
                                            clear H
                                            go_wp2
                                            go_roundg kj29
                                            case measure => have := HJ8.out; have := HJ15.out; have := HJ19.out; have := HJ23.out; have := HK5.out; have := HJ29.out; omega
                                            case rel => exact ⟨(x12_5), (wrap64 ((wrap64 ((wrap64 ((wrap64 (((rd_T31 l0 x79_5).f0) + 1)) * 86400000)) - a1)) + (wrap64 (Int.tdiv (wrap64 ((wrap64 ((wrap64 (a2 - (wrap64 ((wrap64 ((wrap64 ((wrap64 (((rd_T31 l0 x79_5).f0) + 1)) * 86400000)) - a1)) + (wrap64 (1000 * x12_5)))))) * 2)) * a1)) (wrap64 ((wrap64 (2 * a1)) + (wrap64 (1000 * ((rd_T31 l0 x79_5).f1))))))))), (true), (wrap64 (x79_5 + 1)), (by first | rfl | (simp; done) | (simp [*]; done)), (by first | rfl | (simp; done) | (simp [*]; done)), (by first | rfl | (simp; done) | (simp [*]; done)), (by first | rfl | (simp; done) | (simp [*]; done)), H', ⟨by have := HJ8.out; have := HJ15.out; have := HJ19.out; have := HJ23.out; have := HK5.out; have := HJ29.out; omega⟩, ⟨by repeat (first | (with_reducible first | exact HB.out | apply below_alloc | apply pw_below_drewN | apply below_drew1 | refine below_set ?_ GE128.out) | exact HB.out)⟩⟩
                                      · replace c34 := Bool.eq_false_iff.mpr c34
                                        subst c34
                                        have H1 : (if a2 ≥ (wrap64 ((wrap64 ((wrap64 ((wrap64 ((wrap64 (((rd_T31 l0 x79_5).f0) + 1)) * 86400000)) - a1)) + (wrap64 (1000 * x12_5)))) + (wrap64 ((wrap64 (2 * a1)) + (wrap64 (1000 * ((rd_T31 l0 x79_5).f1))))))) then (ephemerislaw2_SmearSmears.l0 kj29 a1 a2 t120 t121 t122 t123 (wrap64 (x12_5 + ((rd_T31 l0 x79_5).f1))) x13_5 x14_5 l0 (l0.length : Int) (wrap64 (x79_5 + 1))) else (ephemerislaw2_SmearSmears.l0 kj29 a1 a2 t120 t121 t122 t123 x12_5 x13_5 x14_5 l0 (l0.length : Int) (wrap64 (x79_5 + 1)))) = some r := by rw [if_neg (show ¬ (false = true) by decide)] at H; exact H
                                        clear H
                                        have H := H1
                                        clear H1
                                        by_cases c38 : a2 ≥ (wrap64 ((wrap64 ((wrap64 ((wrap64 ((wrap64 (((rd_T31 l0 x79_5).f0) + 1)) * 86400000)) - a1)) + (wrap64 (1000 * x12_5)))) + (wrap64 ((wrap64 (2 * a1)) + (wrap64 (1000 * ((rd_T31 l0 x79_5).f1)))))))
                                        · rw [if_pos c38] at H
                                          have c38b0 : decide ((wrap64 ((wrap64 ((wrap64 ((wrap64 ((wrap64 (((rd_T31 l0 x79_5).f0) + 1)) * 86400000)) - a1)) + (wrap64 (1000 * x12_5)))) + (wrap64 ((wrap64 (2 * a1)) + (wrap64 (1000 * ((rd_T31 l0 x79_5).f1))))))) ≤ a2) = true := decide_eq_true c38
                                          clear c38
                                          have H' := Aside0.mk H
                                          clear H
                                          have hcz39_0 : wc.cell? ⟨gb128, 0, none⟩ = some (.int .i64 ((rd_T31 l0 x79_5).f0)) := (blk_cell BK128.out 0).trans rfl
                                          have hcz39_1 : wc.cell? ⟨gb128, 1, none⟩ = some (.int .i64 ((rd_T31 l0 x79_5).f1)) := (blk_cell BK128.out 1).trans rfl
                                          have hfz39_0 := blk_frozen BK128.out 0
                                          have hfz39_1 := blk_frozen BK128.out 1
                                          go_wp2
                                          go_roundg kj29
                                          case measure => have := HJ8.out; have := HJ15.out; have := HJ19.out; have := HJ23.out; have := HK5.out; have := HJ29.out; omega
                                          case rel => exact ⟨(wrap64 (x12_5 + ((rd_T31 l0 x79_5).f1))), (x13_5), (x14_5), (wrap64 (x79_5 + 1)), (by first | rfl | (simp; done) | (simp [*]; done)), (by first | rfl | (simp; done) | (simp [*]; done)), (by first | rfl | (simp; done) | (simp [*]; done)), (by first | rfl | (simp; done) | (simp [*]; done)), H', ⟨by have := HJ8.out; have := HJ15.out; have := HJ19.out; have := HJ23.out; have := HK5.out; have := HJ29.out; omega⟩, ⟨by repeat (first | (with_reducible first | exact HB.out | apply below_alloc | apply pw_below_drewN | apply below_drew1 | refine below_set ?_ GE128.out) | exact HB.out)⟩⟩
                                        · rw [if_neg c38] at H
                                          have c38b0 : decide ((wrap64 ((wrap64 ((wrap64 ((wrap64 ((wrap64 (((rd_T31 l0 x79_5).f0) + 1)) * 86400000)) - a1)) + (wrap64 (1000 * x12_5)))) + (wrap64 ((wrap64 (2 * a1)) + (wrap64 (1000 * ((rd_T31 l0 x79_5).f1))))))) ≤ a2) = false := decide_eq_false c38
                                          clear c38
                                          have H' := Aside0.mk H
                                          clear H
                                          go_wp2
                                          go_roundg kj29
                                          case measure => have := HJ8.out; have := HJ15.out; have := HJ19.out; have := HJ23.out; have := HK5.out; have := HJ29.out; omega
                                          case rel => exact ⟨(x12_5), (x13_5), (x14_5), (wrap64 (x79_5 + 1)), (by first | rfl | (simp; done) | (simp [*]; done)), (by first | rfl | (simp; done) | (simp [*]; done)), (by first | rfl | (simp; done) | (simp [*]; done)), (by first | rfl | (simp; done) | (simp [*]; done)), H', ⟨by have := HJ8.out; have := HJ15.out; have := HJ19.out; have := HJ23.out; have := HK5.out; have := HJ29.out; omega⟩, ⟨by repeat (first | (with_reducible first | exact HB.out | apply below_alloc | apply pw_below_drewN | apply below_drew1 | refine below_set ?_ GE128.out) | exact HB.out)⟩⟩
                                · rw [if_neg c29] at H
                                  exact absurd H (by simp)
                              · rw [if_neg c28] at H
                                exact absurd H (by simp)
                            · rw [if_neg c27] at H
                              have c27b0 : decide (x79_5 < (l0.length : Int)) = false := decide_eq_false c27
                              clear c27
                              by_cases c40 : x14_5 = true
                              · subst c40
                                have H1 : ((ephemerisref2_InstantErr.f x13_5).bind fun t129 => (if t129 = 0 then (if t121 = 0 then (if t120 = x13_5 then (if t123 = 0 then (some (t122 == (wrap64 (x13_5 - a2)))) else (some false)) else (some false)) else (some false)) else (if t121 = 3 then (if t123 = t121 then (if t120 = 0 then (some (t122 == 0)) else (some false)) else (some false)) else (some false)))) = some r := by rw [if_pos rfl] at H; exact H
                                clear H
                                have H := H1
                                clear H1
                                replace H := Option.bind_eq_some_iff.mp H
                                obtain ⟨t129, A410, H⟩ := H
                                replace H : (if t129 = 0 then (if t121 = 0 then (if t120 = x13_5 then (if t123 = 0 then (some (t122 == (wrap64 (x13_5 - a2)))) else (some false)) else (some false)) else (some false)) else (if t121 = 3 then (if t123 = t121 then (if t120 = 0 then (some (t122 == 0)) else (some false)) else (some false)) else (some false))) = some r := H
                                have A41 := Aside0.mk A410
                                clear A410
                                by_cases c42 : t129 = 0
                                · rw [if_pos c42] at H
                                  have c42b0 : (t129 == 0) = true := beq_iff_eq.mpr c42
                                  have c42b1 : (t129 != 0) = false := bne_eq_false_iff_eq.mpr c42
                                  clear c42
                                  by_cases c43 : t121 = 0
                                  · rw [if_pos c43] at H
                                    have c43b0 : (t121 == 0) = true := beq_iff_eq.mpr c43
                                    have c43b1 : (t121 != 0) = false := bne_eq_false_iff_eq.mpr c43
                                    clear c43
                                    by_cases c44 : t120 = x13_5
                                    · rw [if_pos c44] at H
                                      have c44b0 : (t120 == x13_5) = true := beq_iff_eq.mpr c44
                                      have c44b1 : (t120 != x13_5) = false := bne_eq_false_iff_eq.mpr c44
                                      clear c44
                                      by_cases c45 : t123 = 0
                                      · rw [if_pos c45] at H
                                        have c45b0 : (t123 == 0) = true := beq_iff_eq.mpr c45
                                        have c45b1 : (t123 != 0) = false := bne_eq_false_iff_eq.mpr c45
                                        clear c45
                                        obtain rfl := Option.some.inj H
                                        go_wp2_with (first | ((with_reducible refine gate_callee (f := 22) rfl ?_); refine goesL_ (some 139) rfl rfl Try.func22 (by kernel_rfl) rfl #[.int .i64 x13_5] rfl (by (try simp only [List.map_toArray, List.map_cons, List.map_nil]); first | done | rfl | (simp only [List.length_drop, List.length_take]; rfl)) ?_; (with_reducible refine (ephemerisref2_InstantErr.calls x13_5 t129 _ A41.out).mono ?_); rintro e w' ⟨rfl, ⟨nd, rfl⟩⟩; refine ⟨_, rfl, ?_⟩))
                                        go_ret
                                        exact ⟨by first | rfl | (simp [errW_none, errW_some] <;> rfl) | (simp [*, errW_none, errW_some] <;> rfl), by repeat (first | (with_reducible first | exact HB.out | apply below_alloc | apply pw_below_drewN | apply below_drew1) | exact HB.out)⟩
                                      · rw [if_neg c45] at H
                                        have c45b0 : (t123 == 0) = false := beq_eq_false_iff_ne.mpr c45
                                        have c45b1 : (t123 != 0) = true := bne_iff_ne.mpr c45
                                        obtain rfl := Option.some.inj H
                                        go_wp2_with (first | ((with_reducible refine gate_callee (f := 22) rfl ?_); refine goesL_ (some 139) rfl rfl Try.func22 (by kernel_rfl) rfl #[.int .i64 x13_5] rfl (by (try simp only [List.map_toArray, List.map_cons, List.map_nil]); first | done | rfl | (simp only [List.length_drop, List.length_take]; rfl)) ?_; (with_reducible refine (ephemerisref2_InstantErr.calls x13_5 t129 _ A41.out).mono ?_); rintro e w' ⟨rfl, ⟨nd, rfl⟩⟩; refine ⟨_, rfl, ?_⟩))
                                        go_ret
                                        exact ⟨by first | rfl | (simp [errW_none, errW_some] <;> rfl) | (simp [*, errW_none, errW_some] <;> rfl), by repeat (first | (with_reducible first | exact HB.out | apply below_alloc | apply pw_below_drewN | apply below_drew1) | exact HB.out)⟩
                                    · rw [if_neg c44] at H
                                      have c44b0 : (t120 == x13_5) = false := beq_eq_false_iff_ne.mpr c44
                                      have c44b1 : (t120 != x13_5) = true := bne_iff_ne.mpr c44
                                      obtain rfl := Option.some.inj H
                                      go_wp2_with (first | ((with_reducible refine gate_callee (f := 22) rfl ?_); refine goesL_ (some 139) rfl rfl Try.func22 (by kernel_rfl) rfl #[.int .i64 x13_5] rfl (by (try simp only [List.map_toArray, List.map_cons, List.map_nil]); first | done | rfl | (simp only [List.length_drop, List.length_take]; rfl)) ?_; (with_reducible refine (ephemerisref2_InstantErr.calls x13_5 t129 _ A41.out).mono ?_); rintro e w' ⟨rfl, ⟨nd, rfl⟩⟩; refine ⟨_, rfl, ?_⟩))
                                      go_ret
                                      exact ⟨by first | rfl | (simp [errW_none, errW_some] <;> rfl) | (simp [*, errW_none, errW_some] <;> rfl), by repeat (first | (with_reducible first | exact HB.out | apply below_alloc | apply pw_below_drewN | apply below_drew1) | exact HB.out)⟩
                                  · rw [if_neg c43] at H
                                    have c43b0 : (t121 == 0) = false := beq_eq_false_iff_ne.mpr c43
                                    have c43b1 : (t121 != 0) = true := bne_iff_ne.mpr c43
                                    obtain rfl := Option.some.inj H
                                    go_wp2_with (first | ((with_reducible refine gate_callee (f := 22) rfl ?_); refine goesL_ (some 139) rfl rfl Try.func22 (by kernel_rfl) rfl #[.int .i64 x13_5] rfl (by (try simp only [List.map_toArray, List.map_cons, List.map_nil]); first | done | rfl | (simp only [List.length_drop, List.length_take]; rfl)) ?_; (with_reducible refine (ephemerisref2_InstantErr.calls x13_5 t129 _ A41.out).mono ?_); rintro e w' ⟨rfl, ⟨nd, rfl⟩⟩; refine ⟨_, rfl, ?_⟩))
                                    go_ret
                                    exact ⟨by first | rfl | (simp [errW_none, errW_some] <;> rfl) | (simp [*, errW_none, errW_some] <;> rfl), by repeat (first | (with_reducible first | exact HB.out | apply below_alloc | apply pw_below_drewN | apply below_drew1) | exact HB.out)⟩
                                · rw [if_neg c42] at H
                                  have c42b0 : (t129 == 0) = false := beq_eq_false_iff_ne.mpr c42
                                  have c42b1 : (t129 != 0) = true := bne_iff_ne.mpr c42
                                  by_cases c46 : t121 = 3
                                  · rw [if_pos c46] at H
                                    have c46b0 : (t121 == 3) = true := beq_iff_eq.mpr c46
                                    have c46b1 : (t121 != 3) = false := bne_eq_false_iff_eq.mpr c46
                                    clear c46
                                    by_cases c47 : t123 = t121
                                    · rw [if_pos c47] at H
                                      have c47b0 : (t123 == t121) = true := beq_iff_eq.mpr c47
                                      have c47b1 : (t123 != t121) = false := bne_eq_false_iff_eq.mpr c47
                                      clear c47
                                      by_cases c48 : t120 = 0
                                      · rw [if_pos c48] at H
                                        have c48b0 : (t120 == 0) = true := beq_iff_eq.mpr c48
                                        have c48b1 : (t120 != 0) = false := bne_eq_false_iff_eq.mpr c48
                                        clear c48
                                        obtain rfl := Option.some.inj H
                                        go_wp2_with (first | ((with_reducible refine gate_callee (f := 22) rfl ?_); refine goesL_ (some 139) rfl rfl Try.func22 (by kernel_rfl) rfl #[.int .i64 x13_5] rfl (by (try simp only [List.map_toArray, List.map_cons, List.map_nil]); first | done | rfl | (simp only [List.length_drop, List.length_take]; rfl)) ?_; (with_reducible refine (ephemerisref2_InstantErr.calls x13_5 t129 _ A41.out).mono ?_); rintro e w' ⟨rfl, ⟨nd, rfl⟩⟩; refine ⟨_, rfl, ?_⟩))
                                        go_ret
                                        exact ⟨by first | rfl | (simp [errW_none, errW_some] <;> rfl) | (simp [*, errW_none, errW_some] <;> rfl), by repeat (first | (with_reducible first | exact HB.out | apply below_alloc | apply pw_below_drewN | apply below_drew1) | exact HB.out)⟩
                                      · rw [if_neg c48] at H
                                        have c48b0 : (t120 == 0) = false := beq_eq_false_iff_ne.mpr c48
                                        have c48b1 : (t120 != 0) = true := bne_iff_ne.mpr c48
                                        obtain rfl := Option.some.inj H
                                        go_wp2_with (first | ((with_reducible refine gate_callee (f := 22) rfl ?_); refine goesL_ (some 139) rfl rfl Try.func22 (by kernel_rfl) rfl #[.int .i64 x13_5] rfl (by (try simp only [List.map_toArray, List.map_cons, List.map_nil]); first | done | rfl | (simp only [List.length_drop, List.length_take]; rfl)) ?_; (with_reducible refine (ephemerisref2_InstantErr.calls x13_5 t129 _ A41.out).mono ?_); rintro e w' ⟨rfl, ⟨nd, rfl⟩⟩; refine ⟨_, rfl, ?_⟩))
                                        go_ret
                                        exact ⟨by first | rfl | (simp [errW_none, errW_some] <;> rfl) | (simp [*, errW_none, errW_some] <;> rfl), by repeat (first | (with_reducible first | exact HB.out | apply below_alloc | apply pw_below_drewN | apply below_drew1) | exact HB.out)⟩
                                    · rw [if_neg c47] at H
                                      have c47b0 : (t123 == t121) = false := beq_eq_false_iff_ne.mpr c47
                                      have c47b1 : (t123 != t121) = true := bne_iff_ne.mpr c47
                                      obtain rfl := Option.some.inj H
                                      go_wp2_with (first | ((with_reducible refine gate_callee (f := 22) rfl ?_); refine goesL_ (some 139) rfl rfl Try.func22 (by kernel_rfl) rfl #[.int .i64 x13_5] rfl (by (try simp only [List.map_toArray, List.map_cons, List.map_nil]); first | done | rfl | (simp only [List.length_drop, List.length_take]; rfl)) ?_; (with_reducible refine (ephemerisref2_InstantErr.calls x13_5 t129 _ A41.out).mono ?_); rintro e w' ⟨rfl, ⟨nd, rfl⟩⟩; refine ⟨_, rfl, ?_⟩))
                                      go_ret
                                      exact ⟨by first | rfl | (simp [errW_none, errW_some] <;> rfl) | (simp [*, errW_none, errW_some] <;> rfl), by repeat (first | (with_reducible first | exact HB.out | apply below_alloc | apply pw_below_drewN | apply below_drew1) | exact HB.out)⟩
                                  · rw [if_neg c46] at H
                                    have c46b0 : (t121 == 3) = false := beq_eq_false_iff_ne.mpr c46
                                    have c46b1 : (t121 != 3) = true := bne_iff_ne.mpr c46
                                    obtain rfl := Option.some.inj H
                                    go_wp2_with (first | ((with_reducible refine gate_callee (f := 22) rfl ?_); refine goesL_ (some 139) rfl rfl Try.func22 (by kernel_rfl) rfl #[.int .i64 x13_5] rfl (by (try simp only [List.map_toArray, List.map_cons, List.map_nil]); first | done | rfl | (simp only [List.length_drop, List.length_take]; rfl)) ?_; (with_reducible refine (ephemerisref2_InstantErr.calls x13_5 t129 _ A41.out).mono ?_); rintro e w' ⟨rfl, ⟨nd, rfl⟩⟩; refine ⟨_, rfl, ?_⟩))
                                    go_ret
                                    exact ⟨by first | rfl | (simp [errW_none, errW_some] <;> rfl) | (simp [*, errW_none, errW_some] <;> rfl), by repeat (first | (with_reducible first | exact HB.out | apply below_alloc | apply pw_below_drewN | apply below_drew1) | exact HB.out)⟩
                              · replace c40 := Bool.eq_false_iff.mpr c40
                                subst c40
                                have H1 : ((ephemerisref2_InstantErr.f (wrap64 (a2 - (wrap64 (1000 * x12_5))))).bind fun t130 => (if t130 = 0 then (if t121 = 0 then (if t120 = (wrap64 (a2 - (wrap64 (1000 * x12_5)))) then (if t123 = 0 then (some (t122 == (wrap64 ((wrap64 (a2 - (wrap64 (1000 * x12_5)))) - a2)))) else (some false)) else (some false)) else (some false)) else (if t121 = 3 then (if t123 = t121 then (if t120 = 0 then (some (t122 == 0)) else (some false)) else (some false)) else (some false)))) = some r := by rw [if_neg (show ¬ (false = true) by decide)] at H; exact H
                                clear H
                                have H := H1
                                clear H1
                                replace H := Option.bind_eq_some_iff.mp H
                                obtain ⟨t130, A490, H⟩ := H
                                replace H : (if t130 = 0 then (if t121 = 0 then (if t120 = (wrap64 (a2 - (wrap64 (1000 * x12_5)))) then (if t123 = 0 then (some (t122 == (wrap64 ((wrap64 (a2 - (wrap64 (1000 * x12_5)))) - a2)))) else (some false)) else (some false)) else (some false)) else (if t121 = 3 then (if t123 = t121 then (if t120 = 0 then (some (t122 == 0)) else (some false)) else (some false)) else (some false))) = some r := H
                                have A49 := Aside0.mk A490
                                clear A490
                                by_cases c50 : t130 = 0
                                · rw [if_pos c50] at H
                                  have c50b0 : (t130 == 0) = true := beq_iff_eq.mpr c50
                                  have c50b1 : (t130 != 0) = false := bne_eq_false_iff_eq.mpr c50
                                  clear c50
                                  by_cases c51 : t121 = 0
                                  · rw [if_pos c51] at H
                                    have c51b0 : (t121 == 0) = true := beq_iff_eq.mpr c51
                                    have c51b1 : (t121 != 0) = false := bne_eq_false_iff_eq.mpr c51
                                    clear c51
                                    by_cases c52 : t120 = (wrap64 (a2 - (wrap64 (1000 * x12_5))))
                                    · rw [if_pos c52] at H
                                      have c52b0 : (t120 == (wrap64 (a2 - (wrap64 (1000 * x12_5))))) = true := beq_iff_eq.mpr c52
                                      have c52b1 : (t120 != (wrap64 (a2 - (wrap64 (1000 * x12_5))))) = false := bne_eq_false_iff_eq.mpr c52
                                      clear c52
                                      by_cases c53 : t123 = 0
                                      · rw [if_pos c53] at H
                                        have c53b0 : (t123 == 0) = true := beq_iff_eq.mpr c53
                                        have c53b1 : (t123 != 0) = false := bne_eq_false_iff_eq.mpr c53
                                        clear c53
                                        obtain rfl := Option.some.inj H
                                        go_wp2_with (first | ((with_reducible refine gate_callee (f := 22) rfl ?_); refine goesL_ (some 139) rfl rfl Try.func22 (by kernel_rfl) rfl #[.int .i64 (wrap64 (a2 - (wrap64 (1000 * x12_5))))] rfl (by (try simp only [List.map_toArray, List.map_cons, List.map_nil]); first | done | rfl | (simp only [List.length_drop, List.length_take]; rfl)) ?_; (with_reducible refine (ephemerisref2_InstantErr.calls (wrap64 (a2 - (wrap64 (1000 * x12_5)))) t130 _ A49.out).mono ?_); rintro e w' ⟨rfl, ⟨nd, rfl⟩⟩; refine ⟨_, rfl, ?_⟩))
                                        go_ret
                                        exact ⟨by first | rfl | (simp [errW_none, errW_some] <;> rfl) | (simp [*, errW_none, errW_some] <;> rfl), by repeat (first | (with_reducible first | exact HB.out | apply below_alloc | apply pw_below_drewN | apply below_drew1) | exact HB.out)⟩
                                      · rw [if_neg c53] at H
                                        have c53b0 : (t123 == 0) = false := beq_eq_false_iff_ne.mpr c53
                                        have c53b1 : (t123 != 0) = true := bne_iff_ne.mpr c53
                                        obtain rfl := Option.some.inj H
                                        go_wp2_with (first | ((with_reducible refine gate_callee (f := 22) rfl ?_); refine goesL_ (some 139) rfl rfl Try.func22 (by kernel_rfl) rfl #[.int .i64 (wrap64 (a2 - (wrap64 (1000 * x12_5))))] rfl (by (try simp only [List.map_toArray, List.map_cons, List.map_nil]); first | done | rfl | (simp only [List.length_drop, List.length_take]; rfl)) ?_; (with_reducible refine (ephemerisref2_InstantErr.calls (wrap64 (a2 - (wrap64 (1000 * x12_5)))) t130 _ A49.out).mono ?_); rintro e w' ⟨rfl, ⟨nd, rfl⟩⟩; refine ⟨_, rfl, ?_⟩))
                                        go_ret
                                        exact ⟨by first | rfl | (simp [errW_none, errW_some] <;> rfl) | (simp [*, errW_none, errW_some] <;> rfl), by repeat (first | (with_reducible first | exact HB.out | apply below_alloc | apply pw_below_drewN | apply below_drew1) | exact HB.out)⟩
                                    · rw [if_neg c52] at H
                                      have c52b0 : (t120 == (wrap64 (a2 - (wrap64 (1000 * x12_5))))) = false := beq_eq_false_iff_ne.mpr c52
                                      have c52b1 : (t120 != (wrap64 (a2 - (wrap64 (1000 * x12_5))))) = true := bne_iff_ne.mpr c52
                                      obtain rfl := Option.some.inj H
                                      go_wp2_with (first | ((with_reducible refine gate_callee (f := 22) rfl ?_); refine goesL_ (some 139) rfl rfl Try.func22 (by kernel_rfl) rfl #[.int .i64 (wrap64 (a2 - (wrap64 (1000 * x12_5))))] rfl (by (try simp only [List.map_toArray, List.map_cons, List.map_nil]); first | done | rfl | (simp only [List.length_drop, List.length_take]; rfl)) ?_; (with_reducible refine (ephemerisref2_InstantErr.calls (wrap64 (a2 - (wrap64 (1000 * x12_5)))) t130 _ A49.out).mono ?_); rintro e w' ⟨rfl, ⟨nd, rfl⟩⟩; refine ⟨_, rfl, ?_⟩))
                                      go_ret
                                      exact ⟨by first | rfl | (simp [errW_none, errW_some] <;> rfl) | (simp [*, errW_none, errW_some] <;> rfl), by repeat (first | (with_reducible first | exact HB.out | apply below_alloc | apply pw_below_drewN | apply below_drew1) | exact HB.out)⟩
                                  · rw [if_neg c51] at H
                                    have c51b0 : (t121 == 0) = false := beq_eq_false_iff_ne.mpr c51
                                    have c51b1 : (t121 != 0) = true := bne_iff_ne.mpr c51
                                    obtain rfl := Option.some.inj H
                                    go_wp2_with (first | ((with_reducible refine gate_callee (f := 22) rfl ?_); refine goesL_ (some 139) rfl rfl Try.func22 (by kernel_rfl) rfl #[.int .i64 (wrap64 (a2 - (wrap64 (1000 * x12_5))))] rfl (by (try simp only [List.map_toArray, List.map_cons, List.map_nil]); first | done | rfl | (simp only [List.length_drop, List.length_take]; rfl)) ?_; (with_reducible refine (ephemerisref2_InstantErr.calls (wrap64 (a2 - (wrap64 (1000 * x12_5)))) t130 _ A49.out).mono ?_); rintro e w' ⟨rfl, ⟨nd, rfl⟩⟩; refine ⟨_, rfl, ?_⟩))
                                    go_ret
                                    exact ⟨by first | rfl | (simp [errW_none, errW_some] <;> rfl) | (simp [*, errW_none, errW_some] <;> rfl), by repeat (first | (with_reducible first | exact HB.out | apply below_alloc | apply pw_below_drewN | apply below_drew1) | exact HB.out)⟩
                                · rw [if_neg c50] at H
                                  have c50b0 : (t130 == 0) = false := beq_eq_false_iff_ne.mpr c50
                                  have c50b1 : (t130 != 0) = true := bne_iff_ne.mpr c50
                                  by_cases c54 : t121 = 3
                                  · rw [if_pos c54] at H
                                    have c54b0 : (t121 == 3) = true := beq_iff_eq.mpr c54
                                    have c54b1 : (t121 != 3) = false := bne_eq_false_iff_eq.mpr c54
                                    clear c54
                                    by_cases c55 : t123 = t121
                                    · rw [if_pos c55] at H
                                      have c55b0 : (t123 == t121) = true := beq_iff_eq.mpr c55
                                      have c55b1 : (t123 != t121) = false := bne_eq_false_iff_eq.mpr c55
                                      clear c55
                                      by_cases c56 : t120 = 0
                                      · rw [if_pos c56] at H
                                        have c56b0 : (t120 == 0) = true := beq_iff_eq.mpr c56
                                        have c56b1 : (t120 != 0) = false := bne_eq_false_iff_eq.mpr c56
                                        clear c56
                                        obtain rfl := Option.some.inj H
                                        go_wp2_with (first | ((with_reducible refine gate_callee (f := 22) rfl ?_); refine goesL_ (some 139) rfl rfl Try.func22 (by kernel_rfl) rfl #[.int .i64 (wrap64 (a2 - (wrap64 (1000 * x12_5))))] rfl (by (try simp only [List.map_toArray, List.map_cons, List.map_nil]); first | done | rfl | (simp only [List.length_drop, List.length_take]; rfl)) ?_; (with_reducible refine (ephemerisref2_InstantErr.calls (wrap64 (a2 - (wrap64 (1000 * x12_5)))) t130 _ A49.out).mono ?_); rintro e w' ⟨rfl, ⟨nd, rfl⟩⟩; refine ⟨_, rfl, ?_⟩))
                                        go_ret
                                        exact ⟨by first | rfl | (simp [errW_none, errW_some] <;> rfl) | (simp [*, errW_none, errW_some] <;> rfl), by repeat (first | (with_reducible first | exact HB.out | apply below_alloc | apply pw_below_drewN | apply below_drew1) | exact HB.out)⟩
                                      · rw [if_neg c56] at H
                                        have c56b0 : (t120 == 0) = false := beq_eq_false_iff_ne.mpr c56
                                        have c56b1 : (t120 != 0) = true := bne_iff_ne.mpr c56
                                        obtain rfl := Option.some.inj H
                                        go_wp2_with (first | ((with_reducible refine gate_callee (f := 22) rfl ?_); refine goesL_ (some 139) rfl rfl Try.func22 (by kernel_rfl) rfl #[.int .i64 (wrap64 (a2 - (wrap64 (1000 * x12_5))))] rfl (by (try simp only [List.map_toArray, List.map_cons, List.map_nil]); first | done | rfl | (simp only [List.length_drop, List.length_take]; rfl)) ?_; (with_reducible refine (ephemerisref2_InstantErr.calls (wrap64 (a2 - (wrap64 (1000 * x12_5)))) t130 _ A49.out).mono ?_); rintro e w' ⟨rfl, ⟨nd, rfl⟩⟩; refine ⟨_, rfl, ?_⟩))
                                        go_ret
                                        exact ⟨by first | rfl | (simp [errW_none, errW_some] <;> rfl) | (simp [*, errW_none, errW_some] <;> rfl), by repeat (first | (with_reducible first | exact HB.out | apply below_alloc | apply pw_below_drewN | apply below_drew1) | exact HB.out)⟩
                                    · rw [if_neg c55] at H
                                      have c55b0 : (t123 == t121) = false := beq_eq_false_iff_ne.mpr c55
                                      have c55b1 : (t123 != t121) = true := bne_iff_ne.mpr c55
                                      obtain rfl := Option.some.inj H
                                      go_wp2_with (first | ((with_reducible refine gate_callee (f := 22) rfl ?_); refine goesL_ (some 139) rfl rfl Try.func22 (by kernel_rfl) rfl #[.int .i64 (wrap64 (a2 - (wrap64 (1000 * x12_5))))] rfl (by (try simp only [List.map_toArray, List.map_cons, List.map_nil]); first | done | rfl | (simp only [List.length_drop, List.length_take]; rfl)) ?_; (with_reducible refine (ephemerisref2_InstantErr.calls (wrap64 (a2 - (wrap64 (1000 * x12_5)))) t130 _ A49.out).mono ?_); rintro e w' ⟨rfl, ⟨nd, rfl⟩⟩; refine ⟨_, rfl, ?_⟩))
                                      go_ret
                                      exact ⟨by first | rfl | (simp [errW_none, errW_some] <;> rfl) | (simp [*, errW_none, errW_some] <;> rfl), by repeat (first | (with_reducible first | exact HB.out | apply below_alloc | apply pw_below_drewN | apply below_drew1) | exact HB.out)⟩
                                  · rw [if_neg c54] at H
                                    have c54b0 : (t121 == 3) = false := beq_eq_false_iff_ne.mpr c54
                                    have c54b1 : (t121 != 3) = true := bne_iff_ne.mpr c54
                                    obtain rfl := Option.some.inj H
                                    go_wp2_with (first | ((with_reducible refine gate_callee (f := 22) rfl ?_); refine goesL_ (some 139) rfl rfl Try.func22 (by kernel_rfl) rfl #[.int .i64 (wrap64 (a2 - (wrap64 (1000 * x12_5))))] rfl (by (try simp only [List.map_toArray, List.map_cons, List.map_nil]); first | done | rfl | (simp only [List.length_drop, List.length_take]; rfl)) ?_; (with_reducible refine (ephemerisref2_InstantErr.calls (wrap64 (a2 - (wrap64 (1000 * x12_5)))) t130 _ A49.out).mono ?_); rintro e w' ⟨rfl, ⟨nd, rfl⟩⟩; refine ⟨_, rfl, ?_⟩))
                                    go_ret
                                    exact ⟨by first | rfl | (simp [errW_none, errW_some] <;> rfl) | (simp [*, errW_none, errW_some] <;> rfl), by repeat (first | (with_reducible first | exact HB.out | apply below_alloc | apply pw_below_drewN | apply below_drew1) | exact HB.out)⟩
                      · rw [if_neg c26] at H
                        have c26b0 : (x11_23 == 0) = false := beq_eq_false_iff_ne.mpr c26
                        have c26b1 : (x11_23 != 0) = true := bne_iff_ne.mpr c26
                        by_cases c57 : t121 = x11_23
                        · rw [if_pos c57] at H
                          have c57b0 : (t121 == x11_23) = true := beq_iff_eq.mpr c57
                          have c57b1 : (t121 != x11_23) = false := bne_eq_false_iff_eq.mpr c57
                          clear c57
                          by_cases c58 : t123 = x11_23
                          · rw [if_pos c58] at H
                            have c58b0 : (t123 == x11_23) = true := beq_iff_eq.mpr c58
                            have c58b1 : (t123 != x11_23) = false := bne_eq_false_iff_eq.mpr c58
                            clear c58
                            by_cases c59 : t120 = 0
                            · rw [if_pos c59] at H
                              have c59b0 : (t120 == 0) = true := beq_iff_eq.mpr c59
                              have c59b1 : (t120 != 0) = false := bne_eq_false_iff_eq.mpr c59
                              clear c59
                              obtain rfl := Option.some.inj H
                              go_wp2
                              go_ret
                              exact ⟨by first | rfl | (simp [errW_none, errW_some] <;> rfl) | (simp [*, errW_none, errW_some] <;> rfl), by repeat (first | (with_reducible first | exact HB.out | apply below_alloc | apply pw_below_drewN | apply below_drew1) | exact HB.out)⟩
                            · rw [if_neg c59] at H
                              have c59b0 : (t120 == 0) = false := beq_eq_false_iff_ne.mpr c59
                              have c59b1 : (t120 != 0) = true := bne_iff_ne.mpr c59
                              obtain rfl := Option.some.inj H
                              go_wp2
                              go_ret
                              exact ⟨by first | rfl | (simp [errW_none, errW_some] <;> rfl) | (simp [*, errW_none, errW_some] <;> rfl), by repeat (first | (with_reducible first | exact HB.out | apply below_alloc | apply pw_below_drewN | apply below_drew1) | exact HB.out)⟩
                          · rw [if_neg c58] at H
                            have c58b0 : (t123 == x11_23) = false := beq_eq_false_iff_ne.mpr c58
                            have c58b1 : (t123 != x11_23) = true := bne_iff_ne.mpr c58
                            obtain rfl := Option.some.inj H
                            go_wp2
                            go_ret
                            exact ⟨by first | rfl | (simp [errW_none, errW_some] <;> rfl) | (simp [*, errW_none, errW_some] <;> rfl), by repeat (first | (with_reducible first | exact HB.out | apply below_alloc | apply pw_below_drewN | apply below_drew1) | exact HB.out)⟩
                        · rw [if_neg c57] at H
                          have c57b0 : (t121 == x11_23) = false := beq_eq_false_iff_ne.mpr c57
                          have c57b1 : (t121 != x11_23) = true := bne_iff_ne.mpr c57
                          obtain rfl := Option.some.inj H
                          go_wp2
                          go_ret
                          exact ⟨by first | rfl | (simp [errW_none, errW_some] <;> rfl) | (simp [*, errW_none, errW_some] <;> rfl), by repeat (first | (with_reducible first | exact HB.out | apply below_alloc | apply pw_below_drewN | apply below_drew1) | exact HB.out)⟩
            · rw [if_neg c19] at H
              have c19b0 : (t125 == x11_15) = false := beq_eq_false_iff_ne.mpr c19
              have c19b1 : (t125 != x11_15) = true := bne_iff_ne.mpr c19
              obtain rfl := Option.some.inj H
              go_wp2_with (first | ((with_reducible refine gate_callee (f := 20) rfl ?_); refine goesL_ (some 50) rfl rfl Try.func20 (by kernel_rfl) rfl #[.slice A0 l0.length c0, .int .i64 a1] rfl (by (try simp only [List.map_toArray, List.map_cons, List.map_nil]); first | done | rfl | (simp only [List.length_drop, List.length_take]; rfl)) ?_; (with_reducible refine (smear_Check.calls kj15 _ _ l0 a1 t125 _ ?side1 ?side2 A18.out).mono ?_); (case side1 => repeat (first | exact (Kd.C_below HR0.out HB.out) | (with_reducible refine Kd.C_alloc ?_ _) | (with_reducible refine Kd.C_drewN ?_ _) | (with_reducible refine Kd.C_drew ?_))); (case side2 => exact HC0.out); rintro e w60 ⟨rfl, hb⟩; refine ⟨_, rfl, ?_⟩; have n0_ := Aside0.mk (below_step (by repeat (first | (with_reducible first | exact HB.out | apply below_alloc | apply pw_below_drewN | apply below_drew1) | exact HB.out)) hb); clear HB; have HB := n0_; clear n0_; (try clear hb); (try clear hb2); (try clear hk); (try clear hi)))
              go_ret
              exact ⟨by first | rfl | (simp [errW_none, errW_some] <;> rfl) | (simp [*, errW_none, errW_some] <;> rfl), by repeat (first | (with_reducible first | exact HB.out | apply below_alloc | apply pw_below_drewN | apply below_drew1) | exact HB.out)⟩
  · replace c5 := Bool.eq_false_iff.mpr c5
    subst c5
    have H1 : (some false) = some r := by rw [if_neg (show ¬ (false = true) by decide)] at H; exact H
    clear H
    have H := H1
    clear H1
    obtain rfl := Option.some.inj H
    go_enter Try.func3, Try.ntmps3
    go_wp2_with (first | ((with_reducible refine gate_callee (f := 16) rfl ?_); refine goesL_ (some 20) rfl rfl Try.func16 (by kernel_rfl) rfl #[] rfl (by (try simp only [List.map_toArray, List.map_cons, List.map_nil]); first | done | rfl | (simp only [List.length_drop, List.length_take]; rfl)) ?_; (with_reducible refine (ephemerislaw2_smearWorks.calls k  false _ A4.out).mono ?_); rintro e w61 ⟨rfl, hb⟩; refine ⟨_, rfl, ?_⟩; have n0_ := Aside0.mk (below_step (by repeat (first | (with_reducible first | exact HB.out | apply below_alloc | apply pw_below_drewN | apply below_drew1) | exact HB.out)) hb); clear HB; have HB := n0_; clear n0_; (try clear hb); (try clear hb2); (try clear hk); (try clear hi)))
    go_ret
    exact ⟨by first | rfl | (simp [errW_none, errW_some] <;> rfl) | (simp [*, errW_none, errW_some] <;> rfl), by repeat (first | (with_reducible first | exact HB.out | apply below_alloc | apply pw_below_drewN | apply below_drew1) | exact HB.out)⟩

end Go.Proofs.Ytcmgfhfnfkelfaa.PSmearSmears
