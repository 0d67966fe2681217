/- Written by a program of this session: what one law needs. -/
import Derived.Test.YtmahlfjnejbcnaaEclipseFindsn18
set_option linter.unusedSimpArgs false
set_option linter.unusedVariables false
section
namespace Go.Proofs.Ytmahlfjnejbcnaa.PAll
open Go.RowKit YtmahlfjnejbcnaaW.PrintWords YtmahlfjnejbcnaaW.PrintLast YtmahlfjnejbcnaaW.PrintMore More2
attribute [local go_sem] max2_int min2_int max_two min_two max_three min_three max_four min_four tdiv2e18_ tdiv1e18_ cellSS_  -- for this text's walks alone
def ephemerisref2_Whole.f (k : Nat) (a0_0 : Int) (a0_1 : Int) (l0_2 : List (S71)) (a0_3 : Int) (a1 : Int) : Option (Int) := (ephemerisref2_Arg.f k a0_1 a1).bind fun t285 => ((ephemerisref2_Sum.f k a0_0 a0_1 l0_2 a0_3 a1).bind fun t286 => ((ephemerisref2_Mod.f (wrap64 ((wrap64 (t286 + (wrap64 ((wrap64 (Int.tdiv t285 1000000)) * 1048576)))) + (wrap64 (Int.tdiv (wrap64 ((Int.tmod t285 1000000) * 1048576)) 1000000)))) 1048576000000000).bind fun t287 => (some t287)))
end Go.Proofs.Ytmahlfjnejbcnaa.PAll
end
section
namespace Go.Proofs.Ytmahlfjnejbcnaa.PAll
open Go.RowKit YtmahlfjnejbcnaaW.PrintWords YtmahlfjnejbcnaaW.PrintLast YtmahlfjnejbcnaaW.PrintMore More2
attribute [local go_sem] max2_int min2_int max_two min_two max_three min_three max_four min_four tdiv2e18_ tdiv1e18_ cellSS_  -- for this text's walks alone
def ephemerisref2_sunSum.f  : Option (Int × Int × (List (S71)) × Int) := some (775342092, 2737909333333, (([(⟨5318339, 84888545, 2737778555556⟩ : S71), (⟨55536, 169777090, 5475557111112⟩ : S71)] : List (S71))), 2000)
end Go.Proofs.Ytmahlfjnejbcnaa.PAll
end
section
namespace Go.Proofs.Ytmahlfjnejbcnaa.PAll
open Go.RowKit YtmahlfjnejbcnaaW.PrintWords YtmahlfjnejbcnaaW.PrintLast YtmahlfjnejbcnaaW.PrintMore More2
attribute [local go_sem] max2_int min2_int max_two min_two max_three min_three max_four min_four tdiv2e18_ tdiv1e18_ cellSS_  -- for this text's walks alone
def ephemerisref2_SunLon.f (k : Nat) (a0 : Int) (a1 : Int) : Option (Int) := (ephemerisref2_sunSum.f).bind fun bt292 => ((ephemerisref2_Whole.f k bt292.1 bt292.2.1 bt292.2.2.1 bt292.2.2.2 a0).bind fun t298 => ((ephemerisref2_Mod.f (wrap64 (t298 + (wrap64 ((wrap64 (250 * a1)) * 1048576)))) 1048576000000000).bind fun t299 => (some t299)))
end Go.Proofs.Ytmahlfjnejbcnaa.PAll
end
section
namespace Go.Proofs.Ytmahlfjnejbcnaa.PAll
open Go.RowKit YtmahlfjnejbcnaaW.PrintWords YtmahlfjnejbcnaaW.PrintLast YtmahlfjnejbcnaaW.PrintMore More2
attribute [local go_sem] max2_int min2_int max_two min_two max_three min_three max_four min_four tdiv2e18_ tdiv1e18_ cellSS_  -- for this text's walks alone
def ephemerisref2_moonSum.f  : Option (Int × Int × (List (S71)) × Int) := some (392048814, 36601101305556, (([(⟨17468817, 99384016, 36291647083333⟩ : S71), (⟨3538964, 134030564, 31434736861111⟩ : S71), (⟨1828650, 233414580, 67726383944444⟩ : S71), (⟨593383, 198768032, 72583294166666⟩ : S71), (⟨(-514211), 84888545, 2737778555556⟩ : S71), (⟨(-317589), 297001062, 73496390222222⟩ : S71)] : List (S71))), 20000)
end Go.Proofs.Ytmahlfjnejbcnaa.PAll
end
section
namespace Go.Proofs.Ytmahlfjnejbcnaa.PAll
open Go.RowKit YtmahlfjnejbcnaaW.PrintWords YtmahlfjnejbcnaaW.PrintLast YtmahlfjnejbcnaaW.PrintMore More2
attribute [local go_sem] max2_int min2_int max_two min_two max_three min_three max_four min_four tdiv2e18_ tdiv1e18_ cellSS_  -- for this text's walks alone
def ephemerisref2_MoonLon.f (k : Nat) (a0 : Int) (a1 : Int) : Option (Int) := (ephemerisref2_moonSum.f).bind fun bt350 => ((ephemerisref2_Whole.f k bt350.1 bt350.2.1 bt350.2.2.1 bt350.2.2.2 a0).bind fun t356 => ((ephemerisref2_Mod.f (wrap64 (t356 + (wrap64 ((wrap64 (2500 * a1)) * 1048576)))) 1048576000000000).bind fun t357 => (some t357)))
end Go.Proofs.Ytmahlfjnejbcnaa.PAll
end
