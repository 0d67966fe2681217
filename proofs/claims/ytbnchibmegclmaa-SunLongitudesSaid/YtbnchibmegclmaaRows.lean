/-
  No cell of these rows narrows 'for every input' (looked for: loops, veiled, ifaces, maps, wideKeys, modest, calm, conditions, laid).
  DERIVED. THE GIVEN ROWS OF THIS SEAT. 8 by the template 'for every input the law returns true; each argument reads behind the call as it read before'; 0 by the template 'total and deterministic' (their statements: YtbnchibmegclmaaTotals.lean).
  GIVEN WITH THE SEED: the statements are not yours to turn. If you find one false, say at which input.
  Laid BY PROGRAM, IN A SANDBOX (cutbox-rows.mjs): the forced cells as the released guide's own fill.sh prints them over the translation fca4752a0561a231… (all of the seat's roots in one cut). By AI agents, Wed Nov 11 2026. No macro, syntax, notation, axiom, sorry.
-/
import Derived.Test.YtbnchibmegclmaaChecked
import GoSem.Claim
import GoSem.ClaimJoined
import GoSem.ClaimMapViews
import Derived.JoinedTies
import Derived.KernelRfl
namespace Go.Proofs.Ytbnchibmegclmaa
/- THE CELL 'sum', in the pinned program and in every row, IS THE sha256 OF THE DUMP (.gsa) THAT YtbnchibmegclmaaProg.lean LOADS. Nothing in Lean hashes anything: it is a label: what it is worth is what the hold of that sum in a sandbox is worth. -/
noncomputable def Try.pinned : Pinned := { name := "ytbnchibmegclmaa", sum := "fca4752a0561a2315b4f696c242814bf04249769b7d4b07eccbaffee801324b0", checked := Try.checked }
namespace Rows
def none {H : Type} : Left H := { results := [], args := [] }

/-- 'ephemerislaw2.SunLongitudes': WHATEVER THE INPUT: true; the input reads as it did. -/
def sunLongitudesSpec : ChangeSpec := { name := "sunLongitudes", fn := fun _ => fun
  | [d1, d2] => { results := [.lit (.bool true)], args := [d1, d2] }
  | _ => none }
def sunLongitudesRow : OpenClaim := { program := "ytbnchibmegclmaa", sum := "fca4752a0561a2315b4f696c242814bf04249769b7d4b07eccbaffee801324b0", func := "ephemeris/ephemerislaw2.SunLongitudes", spec := "sunLongitudes", apart := false }
def SunLongitudesSaid : Prop := sunLongitudesRow.holds Try.pinned (OpenSpec.ofChange sunLongitudesSpec)

/-- ITS FALSE NEIGHBOUR: 'it returns false'. Refute it at one input. -/
def sunLongitudesWrong : ChangeSpec := { name := "sunLongitudes", fn := fun _ => fun
  | [d1, d2] => { results := [.lit (.bool false)], args := [d1, d2] }
  | _ => none }
def SunLongitudesWrongFalsely : Prop := sunLongitudesRow.holds Try.pinned (OpenSpec.ofChange sunLongitudesWrong)

/-- 'ephemerislaw2.SunAts': WHATEVER THE INPUT: true; the input reads as it did. -/
def sunAtsSpec : ChangeSpec := { name := "sunAts", fn := fun _ => fun
  | [d1, d2] => { results := [.lit (.bool true)], args := [d1, d2] }
  | _ => none }
def sunAtsRow : OpenClaim := { program := "ytbnchibmegclmaa", sum := "fca4752a0561a2315b4f696c242814bf04249769b7d4b07eccbaffee801324b0", func := "ephemeris/ephemerislaw2.SunAts", spec := "sunAts", apart := false }
def SunAtsSaid : Prop := sunAtsRow.holds Try.pinned (OpenSpec.ofChange sunAtsSpec)

/-- ITS FALSE NEIGHBOUR: 'it returns false'. Refute it at one input. -/
def sunAtsWrong : ChangeSpec := { name := "sunAts", fn := fun _ => fun
  | [d1, d2] => { results := [.lit (.bool false)], args := [d1, d2] }
  | _ => none }
def SunAtsWrongFalsely : Prop := sunAtsRow.holds Try.pinned (OpenSpec.ofChange sunAtsWrong)

/-- 'ephemerislaw2.SunEquators': WHATEVER THE INPUT: true; the input reads as it did. -/
def sunEquatorsSpec : ChangeSpec := { name := "sunEquators", fn := fun _ => fun
  | [d1, d2] => { results := [.lit (.bool true)], args := [d1, d2] }
  | _ => none }
def sunEquatorsRow : OpenClaim := { program := "ytbnchibmegclmaa", sum := "fca4752a0561a2315b4f696c242814bf04249769b7d4b07eccbaffee801324b0", func := "ephemeris/ephemerislaw2.SunEquators", spec := "sunEquators", apart := false }
def SunEquatorsSaid : Prop := sunEquatorsRow.holds Try.pinned (OpenSpec.ofChange sunEquatorsSpec)

/-- ITS FALSE NEIGHBOUR: 'it returns false'. Refute it at one input. -/
def sunEquatorsWrong : ChangeSpec := { name := "sunEquators", fn := fun _ => fun
  | [d1, d2] => { results := [.lit (.bool false)], args := [d1, d2] }
  | _ => none }
def SunEquatorsWrongFalsely : Prop := sunEquatorsRow.holds Try.pinned (OpenSpec.ofChange sunEquatorsWrong)

/-- 'ephemerislaw2.MoonAts': WHATEVER THE INPUT: true; the input reads as it did. -/
def moonAtsSpec : ChangeSpec := { name := "moonAts", fn := fun _ => fun
  | [d1, d2, d3] => { results := [.lit (.bool true)], args := [d1, d2, d3] }
  | _ => none }
def moonAtsRow : OpenClaim := { program := "ytbnchibmegclmaa", sum := "fca4752a0561a2315b4f696c242814bf04249769b7d4b07eccbaffee801324b0", func := "ephemeris/ephemerislaw2.MoonAts", spec := "moonAts", apart := false }
def MoonAtsSaid : Prop := moonAtsRow.holds Try.pinned (OpenSpec.ofChange moonAtsSpec)

/-- ITS FALSE NEIGHBOUR: 'it returns false'. Refute it at one input. -/
def moonAtsWrong : ChangeSpec := { name := "moonAts", fn := fun _ => fun
  | [d1, d2, d3] => { results := [.lit (.bool false)], args := [d1, d2, d3] }
  | _ => none }
def MoonAtsWrongFalsely : Prop := moonAtsRow.holds Try.pinned (OpenSpec.ofChange moonAtsWrong)

/-- 'ephemerislaw2.PlaceHeights': WHATEVER THE INPUT: true; the input reads as it did. -/
def placeHeightsSpec : ChangeSpec := { name := "placeHeights", fn := fun _ => fun
  | [d1, d2, d3, d4, d5] => { results := [.lit (.bool true)], args := [d1, d2, d3, d4, d5] }
  | _ => none }
def placeHeightsRow : OpenClaim := { program := "ytbnchibmegclmaa", sum := "fca4752a0561a2315b4f696c242814bf04249769b7d4b07eccbaffee801324b0", func := "ephemeris/ephemerislaw2.PlaceHeights", spec := "placeHeights", apart := false }
def PlaceHeightsSaid : Prop := placeHeightsRow.holds Try.pinned (OpenSpec.ofChange placeHeightsSpec)

/-- ITS FALSE NEIGHBOUR: 'it returns false'. Refute it at one input. -/
def placeHeightsWrong : ChangeSpec := { name := "placeHeights", fn := fun _ => fun
  | [d1, d2, d3, d4, d5] => { results := [.lit (.bool false)], args := [d1, d2, d3, d4, d5] }
  | _ => none }
def PlaceHeightsWrongFalsely : Prop := placeHeightsRow.holds Try.pinned (OpenSpec.ofChange placeHeightsWrong)

/-- 'ephemerislaw2.DialShadows': WHATEVER THE INPUT: true; the input reads as it did. -/
def dialShadowsSpec : ChangeSpec := { name := "dialShadows", fn := fun _ => fun
  | [d1, d2] => { results := [.lit (.bool true)], args := [d1, d2] }
  | _ => none }
def dialShadowsRow : OpenClaim := { program := "ytbnchibmegclmaa", sum := "fca4752a0561a2315b4f696c242814bf04249769b7d4b07eccbaffee801324b0", func := "ephemeris/ephemerislaw2.DialShadows", spec := "dialShadows", apart := false }
def DialShadowsSaid : Prop := dialShadowsRow.holds Try.pinned (OpenSpec.ofChange dialShadowsSpec)

/-- ITS FALSE NEIGHBOUR: 'it returns false'. Refute it at one input. -/
def dialShadowsWrong : ChangeSpec := { name := "dialShadows", fn := fun _ => fun
  | [d1, d2] => { results := [.lit (.bool false)], args := [d1, d2] }
  | _ => none }
def DialShadowsWrongFalsely : Prop := dialShadowsRow.holds Try.pinned (OpenSpec.ofChange dialShadowsWrong)

/-- 'ephemerislaw2.SharpenEarliers': WHATEVER THE INPUT: true; the input reads as it did. -/
def sharpenEarliersSpec : ChangeSpec := { name := "sharpenEarliers", fn := fun _ => fun
  | [d1, d2] => { results := [.lit (.bool true)], args := [d1, d2] }
  | _ => none }
def sharpenEarliersRow : OpenClaim := { program := "ytbnchibmegclmaa", sum := "fca4752a0561a2315b4f696c242814bf04249769b7d4b07eccbaffee801324b0", func := "ephemeris/ephemerislaw2.SharpenEarliers", spec := "sharpenEarliers", unfollowed := true, recurses := true, apart := false }
def SharpenEarliersSaid : Prop := sharpenEarliersRow.holds Try.pinned (OpenSpec.ofChange sharpenEarliersSpec)

/-- ITS FALSE NEIGHBOUR: 'it returns false'. Refute it at one input. -/
def sharpenEarliersWrong : ChangeSpec := { name := "sharpenEarliers", fn := fun _ => fun
  | [d1, d2] => { results := [.lit (.bool false)], args := [d1, d2] }
  | _ => none }
def SharpenEarliersWrongFalsely : Prop := sharpenEarliersRow.holds Try.pinned (OpenSpec.ofChange sharpenEarliersWrong)

/-- 'ephemerislaw2.RisesetAboves': WHATEVER THE INPUT: true; the input reads as it did. -/
def risesetAbovesSpec : ChangeSpec := { name := "risesetAboves", fn := fun _ => fun
  | [d1, d2, d3, d4, d5] => { results := [.lit (.bool true)], args := [d1, d2, d3, d4, d5] }
  | _ => none }
def risesetAbovesRow : OpenClaim := { program := "ytbnchibmegclmaa", sum := "fca4752a0561a2315b4f696c242814bf04249769b7d4b07eccbaffee801324b0", func := "ephemeris/ephemerislaw2.RisesetAboves", spec := "risesetAboves", unfollowed := true, recurses := true, apart := false }
def RisesetAbovesSaid : Prop := risesetAbovesRow.holds Try.pinned (OpenSpec.ofChange risesetAbovesSpec)

/-- ITS FALSE NEIGHBOUR: 'it returns false'. Refute it at one input. -/
def risesetAbovesWrong : ChangeSpec := { name := "risesetAboves", fn := fun _ => fun
  | [d1, d2, d3, d4, d5] => { results := [.lit (.bool false)], args := [d1, d2, d3, d4, d5] }
  | _ => none }
def RisesetAbovesWrongFalsely : Prop := risesetAbovesRow.holds Try.pinned (OpenSpec.ofChange risesetAbovesWrong)

/- THE SECOND FORM. 'bulk': how many values and letters a reading holds, each counted each time it is reached (what is shared counts as often as it is met; a slice's spare places count too). A statement '..UptoSaid' is the law's where the arguments, and the package variables that the reading takes, are together of bulk at most 1048576: NARROWER than '..Said'. Prove '..Said' where nothing that the law and all that it calls make is longer than what came in: it says more and counts as full. Else prove '..UptoSaid'. A law counts once. -/
mutual
def uptoBulk {H : Type} : DataW H → Nat
  | .lit (.string bytes) => bytes.length + 1
  | .lit _ => 1
  | .nil => 1
  | .ptr d => uptoBulk d + 1
  | .slice elems spare => uptoBulkAll elems + uptoBulkAll spare + 1
  | .agg parts => uptoBulkAll parts + 1
  | .iface _ d => uptoBulk d + 1
  | .map entries => uptoBulkEntries entries + 1
  | .held _ => 1
def uptoBulkAll {H : Type} : List (DataW H) → Nat
  | [] => 0
  | d :: r => uptoBulk d + uptoBulkAll r
def uptoBulkEntries {H : Type} : List (Lit × DataW H) → Nat
  | [] => 0
  | x :: r => uptoBulkEntry x + uptoBulkEntries r
def uptoBulkEntry {H : Type} : Lit × DataW H → Nat
  | (.string bytes, d) => bytes.length + uptoBulk d + 1
  | (_, d) => uptoBulk d + 1
 end
def uptoSmall : (H : Type) → List (DataW H) → Bool := fun _ ds => decide (uptoBulkAll ds ≤ 1048576)
def OpenSpec.upto (s : _root_.Go.ChangeSpec) : _root_.Go.OpenSpec := { _root_.Go.OpenSpec.ofChange s with cond := some uptoSmall }

/-- 'ephemerislaw2.SunLongitudes', WHERE WHAT IT READS IS OF BULK AT MOST 1048576: true; the input reads as it did. -/
def sunLongitudesUptoRow : OpenClaim := { program := "ytbnchibmegclmaa", sum := "fca4752a0561a2315b4f696c242814bf04249769b7d4b07eccbaffee801324b0", func := "ephemeris/ephemerislaw2.SunLongitudes", spec := "sunLongitudes", apart := false, narrowed := true }
def SunLongitudesUptoSaid : Prop := sunLongitudesUptoRow.holds Try.pinned (OpenSpec.upto sunLongitudesSpec)

/-- 'ephemerislaw2.SunAts', WHERE WHAT IT READS IS OF BULK AT MOST 1048576: true; the input reads as it did. -/
def sunAtsUptoRow : OpenClaim := { program := "ytbnchibmegclmaa", sum := "fca4752a0561a2315b4f696c242814bf04249769b7d4b07eccbaffee801324b0", func := "ephemeris/ephemerislaw2.SunAts", spec := "sunAts", apart := false, narrowed := true }
def SunAtsUptoSaid : Prop := sunAtsUptoRow.holds Try.pinned (OpenSpec.upto sunAtsSpec)

/-- 'ephemerislaw2.SunEquators', WHERE WHAT IT READS IS OF BULK AT MOST 1048576: true; the input reads as it did. -/
def sunEquatorsUptoRow : OpenClaim := { program := "ytbnchibmegclmaa", sum := "fca4752a0561a2315b4f696c242814bf04249769b7d4b07eccbaffee801324b0", func := "ephemeris/ephemerislaw2.SunEquators", spec := "sunEquators", apart := false, narrowed := true }
def SunEquatorsUptoSaid : Prop := sunEquatorsUptoRow.holds Try.pinned (OpenSpec.upto sunEquatorsSpec)

/-- 'ephemerislaw2.MoonAts', WHERE WHAT IT READS IS OF BULK AT MOST 1048576: true; the input reads as it did. -/
def moonAtsUptoRow : OpenClaim := { program := "ytbnchibmegclmaa", sum := "fca4752a0561a2315b4f696c242814bf04249769b7d4b07eccbaffee801324b0", func := "ephemeris/ephemerislaw2.MoonAts", spec := "moonAts", apart := false, narrowed := true }
def MoonAtsUptoSaid : Prop := moonAtsUptoRow.holds Try.pinned (OpenSpec.upto moonAtsSpec)

/-- 'ephemerislaw2.PlaceHeights', WHERE WHAT IT READS IS OF BULK AT MOST 1048576: true; the input reads as it did. -/
def placeHeightsUptoRow : OpenClaim := { program := "ytbnchibmegclmaa", sum := "fca4752a0561a2315b4f696c242814bf04249769b7d4b07eccbaffee801324b0", func := "ephemeris/ephemerislaw2.PlaceHeights", spec := "placeHeights", apart := false, narrowed := true }
def PlaceHeightsUptoSaid : Prop := placeHeightsUptoRow.holds Try.pinned (OpenSpec.upto placeHeightsSpec)

/-- 'ephemerislaw2.DialShadows', WHERE WHAT IT READS IS OF BULK AT MOST 1048576: true; the input reads as it did. -/
def dialShadowsUptoRow : OpenClaim := { program := "ytbnchibmegclmaa", sum := "fca4752a0561a2315b4f696c242814bf04249769b7d4b07eccbaffee801324b0", func := "ephemeris/ephemerislaw2.DialShadows", spec := "dialShadows", apart := false, narrowed := true }
def DialShadowsUptoSaid : Prop := dialShadowsUptoRow.holds Try.pinned (OpenSpec.upto dialShadowsSpec)

/-- 'ephemerislaw2.SharpenEarliers', WHERE WHAT IT READS IS OF BULK AT MOST 1048576: true; the input reads as it did. -/
def sharpenEarliersUptoRow : OpenClaim := { program := "ytbnchibmegclmaa", sum := "fca4752a0561a2315b4f696c242814bf04249769b7d4b07eccbaffee801324b0", func := "ephemeris/ephemerislaw2.SharpenEarliers", spec := "sharpenEarliers", unfollowed := true, recurses := true, apart := false, narrowed := true }
def SharpenEarliersUptoSaid : Prop := sharpenEarliersUptoRow.holds Try.pinned (OpenSpec.upto sharpenEarliersSpec)

/-- 'ephemerislaw2.RisesetAboves', WHERE WHAT IT READS IS OF BULK AT MOST 1048576: true; the input reads as it did. -/
def risesetAbovesUptoRow : OpenClaim := { program := "ytbnchibmegclmaa", sum := "fca4752a0561a2315b4f696c242814bf04249769b7d4b07eccbaffee801324b0", func := "ephemeris/ephemerislaw2.RisesetAboves", spec := "risesetAboves", unfollowed := true, recurses := true, apart := false, narrowed := true }
def RisesetAbovesUptoSaid : Prop := risesetAbovesUptoRow.holds Try.pinned (OpenSpec.upto risesetAbovesSpec)

end Rows
end Go.Proofs.Ytbnchibmegclmaa
