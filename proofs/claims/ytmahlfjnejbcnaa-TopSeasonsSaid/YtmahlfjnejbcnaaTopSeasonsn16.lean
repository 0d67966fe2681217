/- Written by a program of this session: what one law needs. -/
import Derived.Test.YtmahlfjnejbcnaaTopSeasonsn15
set_option linter.unusedSimpArgs false
set_option linter.unusedVariables false
section
namespace Go.Proofs.Ytmahlfjnejbcnaa.PAll
open Go.RowKit YtmahlfjnejbcnaaW.PrintWords YtmahlfjnejbcnaaW.PrintLast YtmahlfjnejbcnaaW.PrintMore More2 Sq
attribute [local go_sem] max2_int min2_int max_two min_two max_three min_three max_four min_four tdiv2e18_ tdiv1e18_ cellSS_  -- for this text's walks alone
def ephemerisref2_SinCos.l0 : Nat → Int → Int → Int → Option (Int × Int)
 | 0, _, _, _ => none
 | k + 1, x6, x7, x41 => if x41 < 12 then ((ephemerisref2_Mul.f x6 (wrap64 (1152921504606846976 - x7))).bind fun t418 => ((ephemerisref2_Mul.f x6 x6).bind fun t419 => (ephemerisref2_SinCos.l0 k (wrap64 (2 * t418)) (wrap64 (2 * t419)) (wrap64 (x41 + 1))))) else (some (x6, wrap64 (1152921504606846976 - x7)))
def ephemerisref2_SinCos.f (k : Nat) (a0 : Int) : Option (Int × Int) := (ephemerisref2_Mod.f a0 1000000000000000).bind fun t412 => ((ephemerisref2_Mul.f ((wrap64 ((wrap64 (t412 * 7244)) + (wrap64 (Int.tdiv (wrap64 ((wrap64 (Int.tdiv t412 1000000)) * 19458077)) 1000)))) / 4096) ((wrap64 ((wrap64 (t412 * 7244)) + (wrap64 (Int.tdiv (wrap64 ((wrap64 (Int.tdiv t412 1000000)) * 19458077)) 1000)))) / 4096)).bind fun t413 => ((ephemerisref2_Mul.f ((wrap64 ((wrap64 (t412 * 7244)) + (wrap64 (Int.tdiv (wrap64 ((wrap64 (Int.tdiv t412 1000000)) * 19458077)) 1000)))) / 4096) t413).bind fun t414 => ((ephemerisref2_Mul.f ((wrap64 ((wrap64 (t412 * 7244)) + (wrap64 (Int.tdiv (wrap64 ((wrap64 (Int.tdiv t412 1000000)) * 19458077)) 1000)))) / 4096) t413).bind fun t415 => ((ephemerisref2_Mul.f t415 t413).bind fun t416 => ((ephemerisref2_Mul.f t413 t413).bind fun t417 => (ephemerisref2_SinCos.l0 k (wrap64 ((wrap64 (((wrap64 ((wrap64 (t412 * 7244)) + (wrap64 (Int.tdiv (wrap64 ((wrap64 (Int.tdiv t412 1000000)) * 19458077)) 1000)))) / 4096) - (wrap64 (Int.tdiv t414 6)))) + (wrap64 (Int.tdiv t416 120)))) (wrap64 ((wrap64 (Int.tdiv t413 2)) - (wrap64 (Int.tdiv t417 24)))) 0))))))
theorem ephemerisref2_SinCos.mono_l : ∀ k, (∀ y0 y1 y2, LeO (ephemerisref2_SinCos.l0 k y0 y1 y2) (ephemerisref2_SinCos.l0 (k + 1) y0 y1 y2))
 | 0 => fun _ _ _ r h => by simp [ephemerisref2_SinCos.l0] at h
 | k + 1 => by
  have ih0 := ephemerisref2_SinCos.mono_l k
  ·intro y0 y1 y2
   unfold ephemerisref2_SinCos.l0
   repeat' first
   | (with_reducible exact ih0 _ _ _)
   | (with_reducible exact LeO.refl _)
   | (with_reducible exact LeO.none _)
   | (with_reducible refine LeO.ite ?_ ?_)
   | (with_reducible refine LeO.bind ?_ (fun _ => ?_))
   | exact ih0 _ _ _
   | exact LeO.none _
   | refine LeO.ite ?_ ?_
   | refine LeO.bind ?_ (fun _ => ?_)
theorem ephemerisref2_SinCos.mono : ∀ a0 k, LeO (ephemerisref2_SinCos.f k a0) (ephemerisref2_SinCos.f (k + 1) a0) := by
 intro a0 k
 have ih0 := ephemerisref2_SinCos.mono_l k
 unfold ephemerisref2_SinCos.f
 repeat' first
   | (with_reducible exact ih0 _ _ _)
   | (with_reducible exact LeO.refl _)
   | (with_reducible exact LeO.none _)
   | (with_reducible refine LeO.ite ?_ ?_)
   | (with_reducible refine LeO.bind ?_ (fun _ => ?_))
   | exact ih0 _ _ _
   | exact LeO.none _
   | refine LeO.ite ?_ ?_
   | refine LeO.bind ?_ (fun _ => ?_)
end Go.Proofs.Ytmahlfjnejbcnaa.PAll
end
section
namespace Go.Proofs.Ytmahlfjnejbcnaa.PAll
open Go.RowKit YtmahlfjnejbcnaaW.PrintWords YtmahlfjnejbcnaaW.PrintLast YtmahlfjnejbcnaaW.PrintMore More2 Sq
attribute [local go_sem] max2_int min2_int max_two min_two max_three min_three max_four min_four tdiv2e18_ tdiv1e18_ cellSS_  -- for this text's walks alone
mutual
def ephemerisref2_Arg.j0 : Nat → Int → Int → Bool → Option (Int)
 | 0, _, _, _ => none
 | k + 1, x0, x1, x5 => if x1 < 0 then (ephemerisref2_Arg.j1 k x0 (wrap64 (-x1)) x5) else (ephemerisref2_Arg.j1 k x0 x1 x5)
def ephemerisref2_Arg.j1 : Nat → Int → Int → Bool → Option (Int)
 | 0, _, _, _ => none
 | k + 1, x0, x1, x5 => ephemerisref2_Arg.l0 k x0 x1 x5 0 0 50
def ephemerisref2_Arg.l0 : Nat → Int → Int → Bool → Int → Int → Int → Option (Int)
 | 0, _, _, _, _, _, _ => none
 | k + 1, x0, x1, x5, x6, x7, x8 => if x8 ≥ 0 then (if 0 ≤ x8 then (if (Go.bits .and .i64 (shr .i64 x1 x8) 1) = 1 then (ephemerisref2_Arg.l0 k x0 x1 x5 (Int.tmod (wrap64 ((wrap64 (2 * x6)) + (wrap64 (Int.tdiv (wrap64 ((wrap64 (2 * x7)) + x0)) 86400000)))) 1000000000000000) (Int.tmod (wrap64 ((wrap64 (2 * x7)) + x0)) 86400000) (wrap64 (x8 - 1))) else (ephemerisref2_Arg.l0 k x0 x1 x5 (Int.tmod (wrap64 ((wrap64 (2 * x6)) + (wrap64 (Int.tdiv (wrap64 (2 * x7)) 86400000)))) 1000000000000000) (Int.tmod (wrap64 (2 * x7)) 86400000) (wrap64 (x8 - 1)))) else (none)) else (if x5 = true then (if x7 > 0 then ((ephemerisref2_Mod.f (wrap64 ((wrap64 (-x6)) - 1)) 1000000000000000).bind fun t409 => (some t409)) else ((ephemerisref2_Mod.f (wrap64 (-x6)) 1000000000000000).bind fun t410 => (some t410))) else ((ephemerisref2_Mod.f x6 1000000000000000).bind fun t411 => (some t411)))
end
def ephemerisref2_Arg.f (k : Nat) (a0 : Int) (a1 : Int) : Option (Int) := if a0 < 0 then (ephemerisref2_Arg.j0 k (wrap64 (-a0)) a1 ((decide (a0 < 0)) != (decide (a1 < 0)))) else (ephemerisref2_Arg.j0 k a0 a1 ((decide (a0 < 0)) != (decide (a1 < 0))))
end Go.Proofs.Ytmahlfjnejbcnaa.PAll
end
section
namespace Go.Proofs.Ytmahlfjnejbcnaa.PAll
open Go.RowKit YtmahlfjnejbcnaaW.PrintWords YtmahlfjnejbcnaaW.PrintLast YtmahlfjnejbcnaaW.PrintMore More2 Sq
attribute [local go_sem] max2_int min2_int max_two min_two max_three min_three max_four min_four tdiv2e18_ tdiv1e18_ cellSS_  -- for this text's walks alone
def ephemerisref2_Part.f (a0 : Int) (a1 : Int) : Option (Int) := if a1 < 0 then (some (wrap64 ((-1) * ((wrap64 ((wrap64 (a0 * ((wrap64 (-a1)) / 1073741824))) + ((wrap64 (a0 * (Go.bits .and .i64 (wrap64 (-a1)) 1073741823))) / 1073741824))) / 1024)))) else (some (wrap64 (1 * ((wrap64 ((wrap64 (a0 * (a1 / 1073741824))) + ((wrap64 (a0 * (Go.bits .and .i64 a1 1073741823))) / 1073741824))) / 1024))))
end Go.Proofs.Ytmahlfjnejbcnaa.PAll
end
section
namespace Go.Proofs.Ytmahlfjnejbcnaa.PAll
open Go.RowKit YtmahlfjnejbcnaaW.PrintWords YtmahlfjnejbcnaaW.PrintLast YtmahlfjnejbcnaaW.PrintMore More2 Sq
attribute [local go_sem] max2_int min2_int max_two min_two max_three min_three max_four min_four tdiv2e18_ tdiv1e18_ cellSS_  -- for this text's walks alone
def ephemerisref2_Sum.l0 : Nat → Int → Int → List (S71) → Int → Int → Option (Int)
 | 0, _, _, _, _, _ => none
 | k + 1, x1, x5, x14, x15, x16 => if x16 < x15 then (if 0 ≤ x16 then (if x16 < (x14.length : Int) then ((ephemerisref2_Arg.f k ((rd_T71 x14 x16).f2) x1).bind fun t423 => ((ephemerisref2_SinCos.f k (wrap64 (t423 + (wrap64 (((rd_T71 x14 x16).f1) * 1000000))))).bind fun bt424 => ((ephemerisref2_Part.f ((rd_T71 x14 x16).f0) bt424.1).bind fun t426 => (ephemerisref2_Sum.l0 k x1 (wrap64 (x5 + t426)) x14 x15 (wrap64 (x16 + 1)))))) else (none)) else (none)) else (some x5)
def ephemerisref2_Sum.f (k : Nat) (a0_0 : Int) (a0_1 : Int) (l0_2 : List (S71)) (a0_3 : Int) (a1 : Int) : Option (Int) := ephemerisref2_Sum.l0 k a1 (wrap64 (a0_0 * 1048576)) l0_2 (l0_2.length : Int) 0
end Go.Proofs.Ytmahlfjnejbcnaa.PAll
end
section
namespace Go.Proofs.Ytmahlfjnejbcnaa.PAll
open Go.RowKit YtmahlfjnejbcnaaW.PrintWords YtmahlfjnejbcnaaW.PrintLast YtmahlfjnejbcnaaW.PrintMore More2 Sq
attribute [local go_sem] max2_int min2_int max_two min_two max_three min_three max_four min_four tdiv2e18_ tdiv1e18_ cellSS_  -- for this text's walks alone
def ephemerisref2_Whole.f (k : Nat) (a0_0 : Int) (a0_1 : Int) (l0_2 : List (S71)) (a0_3 : Int) (a1 : Int) : Option (Int) := (ephemerisref2_Arg.f k a0_1 a1).bind fun t428 => ((ephemerisref2_Sum.f k a0_0 a0_1 l0_2 a0_3 a1).bind fun t429 => ((ephemerisref2_Mod.f (wrap64 ((wrap64 (t429 + (wrap64 ((wrap64 (Int.tdiv t428 1000000)) * 1048576)))) + (wrap64 (Int.tdiv (wrap64 ((Int.tmod t428 1000000) * 1048576)) 1000000)))) 1048576000000000).bind fun t430 => (some t430)))
end Go.Proofs.Ytmahlfjnejbcnaa.PAll
end
