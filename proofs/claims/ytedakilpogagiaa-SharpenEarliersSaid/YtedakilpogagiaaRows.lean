/-
  No cell of these rows narrows 'for every input' (looked for: loops, veiled, ifaces, maps, wideKeys, modest, calm, conditions, laid).
  DERIVED. THE GIVEN ROWS OF THIS SEAT. 12 by the template 'for every input the law returns true; each argument reads behind the call as it read before'; 0 by the template 'total and deterministic' (their statements: YtedakilpogagiaaTotals.lean).
  GIVEN WITH THE SEED: the statements are not yours to turn. If you find one false, say at which input.
  Laid BY PROGRAM, IN A SANDBOX (cutbox-rows.mjs): the forced cells as the released guide's own fill.sh prints them over the translation e535dd48c0495ccd… (all of the seat's roots in one cut). By AI agents, Wed Nov 11 2026. No macro, syntax, notation, axiom, sorry.
-/
import Derived.Test.YtedakilpogagiaaChecked
import GoSem.Claim
import GoSem.ClaimJoined
import GoSem.ClaimMapViews
import Derived.JoinedTies
import Derived.KernelRfl
namespace Go.Proofs.Ytedakilpogagiaa
/- THE CELL 'sum', in the pinned program and in every row, IS THE sha256 OF THE DUMP (.gsa) THAT YtedakilpogagiaaProg.lean LOADS. Nothing in Lean hashes anything: it is a label: what it is worth is what the hold of that sum in a sandbox is worth. -/
noncomputable def Try.pinned : Pinned := { name := "ytedakilpogagiaa", sum := "e535dd48c0495ccd63dc7752accb316e32893a8dadd93e8f3a8677670c1d65c9", checked := Try.checked }
namespace Rows
def none {H : Type} : Left H := { results := [], args := [] }

/-- 'ephemerislaw2.SunEquators': WHATEVER THE INPUT: true; the input reads as it did. -/
def sunEquatorsSpec : ChangeSpec := { name := "sunEquators", fn := fun _ => fun
  | [d1, d2] => { results := [.lit (.bool true)], args := [d1, d2] }
  | _ => none }
def sunEquatorsRow : OpenClaim := { program := "ytedakilpogagiaa", sum := "e535dd48c0495ccd63dc7752accb316e32893a8dadd93e8f3a8677670c1d65c9", func := "ephemeris/ephemerislaw2.SunEquators", spec := "sunEquators", apart := false }
def SunEquatorsSaid : Prop := sunEquatorsRow.holds Try.pinned (OpenSpec.ofChange sunEquatorsSpec)

/-- ITS FALSE NEIGHBOUR: 'it returns false'. Refute it at one input. -/
def sunEquatorsWrong : ChangeSpec := { name := "sunEquators", fn := fun _ => fun
  | [d1, d2] => { results := [.lit (.bool false)], args := [d1, d2] }
  | _ => none }
def SunEquatorsWrongFalsely : Prop := sunEquatorsRow.holds Try.pinned (OpenSpec.ofChange sunEquatorsWrong)

/-- 'ephemerislaw2.SunAts': WHATEVER THE INPUT: true; the input reads as it did. -/
def sunAtsSpec : ChangeSpec := { name := "sunAts", fn := fun _ => fun
  | [d1, d2] => { results := [.lit (.bool true)], args := [d1, d2] }
  | _ => none }
def sunAtsRow : OpenClaim := { program := "ytedakilpogagiaa", sum := "e535dd48c0495ccd63dc7752accb316e32893a8dadd93e8f3a8677670c1d65c9", func := "ephemeris/ephemerislaw2.SunAts", spec := "sunAts", apart := false }
def SunAtsSaid : Prop := sunAtsRow.holds Try.pinned (OpenSpec.ofChange sunAtsSpec)

/-- ITS FALSE NEIGHBOUR: 'it returns false'. Refute it at one input. -/
def sunAtsWrong : ChangeSpec := { name := "sunAts", fn := fun _ => fun
  | [d1, d2] => { results := [.lit (.bool false)], args := [d1, d2] }
  | _ => none }
def SunAtsWrongFalsely : Prop := sunAtsRow.holds Try.pinned (OpenSpec.ofChange sunAtsWrong)

/-- 'ephemerislaw2.MoonAts': WHATEVER THE INPUT: true; the input reads as it did. -/
def moonAtsSpec : ChangeSpec := { name := "moonAts", fn := fun _ => fun
  | [d1, d2, d3] => { results := [.lit (.bool true)], args := [d1, d2, d3] }
  | _ => none }
def moonAtsRow : OpenClaim := { program := "ytedakilpogagiaa", sum := "e535dd48c0495ccd63dc7752accb316e32893a8dadd93e8f3a8677670c1d65c9", func := "ephemeris/ephemerislaw2.MoonAts", spec := "moonAts", apart := false }
def MoonAtsSaid : Prop := moonAtsRow.holds Try.pinned (OpenSpec.ofChange moonAtsSpec)

/-- ITS FALSE NEIGHBOUR: 'it returns false'. Refute it at one input. -/
def moonAtsWrong : ChangeSpec := { name := "moonAts", fn := fun _ => fun
  | [d1, d2, d3] => { results := [.lit (.bool false)], args := [d1, d2, d3] }
  | _ => none }
def MoonAtsWrongFalsely : Prop := moonAtsRow.holds Try.pinned (OpenSpec.ofChange moonAtsWrong)

/-- 'ephemerislaw2.PlaceHeights': WHATEVER THE INPUT: true; the input reads as it did. -/
def placeHeightsSpec : ChangeSpec := { name := "placeHeights", fn := fun _ => fun
  | [d1, d2, d3, d4, d5] => { results := [.lit (.bool true)], args := [d1, d2, d3, d4, d5] }
  | _ => none }
def placeHeightsRow : OpenClaim := { program := "ytedakilpogagiaa", sum := "e535dd48c0495ccd63dc7752accb316e32893a8dadd93e8f3a8677670c1d65c9", func := "ephemeris/ephemerislaw2.PlaceHeights", spec := "placeHeights", apart := false }
def PlaceHeightsSaid : Prop := placeHeightsRow.holds Try.pinned (OpenSpec.ofChange placeHeightsSpec)

/-- ITS FALSE NEIGHBOUR: 'it returns false'. Refute it at one input. -/
def placeHeightsWrong : ChangeSpec := { name := "placeHeights", fn := fun _ => fun
  | [d1, d2, d3, d4, d5] => { results := [.lit (.bool false)], args := [d1, d2, d3, d4, d5] }
  | _ => none }
def PlaceHeightsWrongFalsely : Prop := placeHeightsRow.holds Try.pinned (OpenSpec.ofChange placeHeightsWrong)

/-- 'ephemerislaw2.DialLines': WHATEVER THE INPUT: true; the input reads as it did. -/
def dialLinesSpec : ChangeSpec := { name := "dialLines", fn := fun _ => fun
  | [d1, d2] => { results := [.lit (.bool true)], args := [d1, d2] }
  | _ => none }
def dialLinesRow : OpenClaim := { program := "ytedakilpogagiaa", sum := "e535dd48c0495ccd63dc7752accb316e32893a8dadd93e8f3a8677670c1d65c9", func := "ephemeris/ephemerislaw2.DialLines", spec := "dialLines", apart := false }
def DialLinesSaid : Prop := dialLinesRow.holds Try.pinned (OpenSpec.ofChange dialLinesSpec)

/-- ITS FALSE NEIGHBOUR: 'it returns false'. Refute it at one input. -/
def dialLinesWrong : ChangeSpec := { name := "dialLines", fn := fun _ => fun
  | [d1, d2] => { results := [.lit (.bool false)], args := [d1, d2] }
  | _ => none }
def DialLinesWrongFalsely : Prop := dialLinesRow.holds Try.pinned (OpenSpec.ofChange dialLinesWrong)

/-- 'ephemerislaw2.DialShadows': WHATEVER THE INPUT: true; the input reads as it did. -/
def dialShadowsSpec : ChangeSpec := { name := "dialShadows", fn := fun _ => fun
  | [d1, d2] => { results := [.lit (.bool true)], args := [d1, d2] }
  | _ => none }
def dialShadowsRow : OpenClaim := { program := "ytedakilpogagiaa", sum := "e535dd48c0495ccd63dc7752accb316e32893a8dadd93e8f3a8677670c1d65c9", func := "ephemeris/ephemerislaw2.DialShadows", spec := "dialShadows", apart := false }
def DialShadowsSaid : Prop := dialShadowsRow.holds Try.pinned (OpenSpec.ofChange dialShadowsSpec)

/-- ITS FALSE NEIGHBOUR: 'it returns false'. Refute it at one input. -/
def dialShadowsWrong : ChangeSpec := { name := "dialShadows", fn := fun _ => fun
  | [d1, d2] => { results := [.lit (.bool false)], args := [d1, d2] }
  | _ => none }
def DialShadowsWrongFalsely : Prop := dialShadowsRow.holds Try.pinned (OpenSpec.ofChange dialShadowsWrong)

/-- 'ephemerislaw2.RisesetAboves': WHATEVER THE INPUT: true; the input reads as it did. -/
def risesetAbovesSpec : ChangeSpec := { name := "risesetAboves", fn := fun _ => fun
  | [d1, d2, d3, d4, d5] => { results := [.lit (.bool true)], args := [d1, d2, d3, d4, d5] }
  | _ => none }
def risesetAbovesRow : OpenClaim := { program := "ytedakilpogagiaa", sum := "e535dd48c0495ccd63dc7752accb316e32893a8dadd93e8f3a8677670c1d65c9", func := "ephemeris/ephemerislaw2.RisesetAboves", spec := "risesetAboves", unfollowed := true, recurses := true, apart := false }
def RisesetAbovesSaid : Prop := risesetAbovesRow.holds Try.pinned (OpenSpec.ofChange risesetAbovesSpec)

/-- ITS FALSE NEIGHBOUR: 'it returns false'. Refute it at one input. -/
def risesetAbovesWrong : ChangeSpec := { name := "risesetAboves", fn := fun _ => fun
  | [d1, d2, d3, d4, d5] => { results := [.lit (.bool false)], args := [d1, d2, d3, d4, d5] }
  | _ => none }
def RisesetAbovesWrongFalsely : Prop := risesetAbovesRow.holds Try.pinned (OpenSpec.ofChange risesetAbovesWrong)

/-- 'ephemerislaw2.PhaseFinds': WHATEVER THE INPUT: true; the input reads as it did. -/
def phaseFindsSpec : ChangeSpec := { name := "phaseFinds", fn := fun _ => fun
  | [d1, d2, d3, d4] => { results := [.lit (.bool true)], args := [d1, d2, d3, d4] }
  | _ => none }
def phaseFindsRow : OpenClaim := { program := "ytedakilpogagiaa", sum := "e535dd48c0495ccd63dc7752accb316e32893a8dadd93e8f3a8677670c1d65c9", func := "ephemeris/ephemerislaw2.PhaseFinds", spec := "phaseFinds", unfollowed := true, recurses := true, apart := false }
def PhaseFindsSaid : Prop := phaseFindsRow.holds Try.pinned (OpenSpec.ofChange phaseFindsSpec)

/-- ITS FALSE NEIGHBOUR: 'it returns false'. Refute it at one input. -/
def phaseFindsWrong : ChangeSpec := { name := "phaseFinds", fn := fun _ => fun
  | [d1, d2, d3, d4] => { results := [.lit (.bool false)], args := [d1, d2, d3, d4] }
  | _ => none }
def PhaseFindsWrongFalsely : Prop := phaseFindsRow.holds Try.pinned (OpenSpec.ofChange phaseFindsWrong)

/-- 'ephemerislaw2.PhaseNumbers': WHATEVER THE INPUT: true; the input reads as it did. -/
def phaseNumbersSpec : ChangeSpec := { name := "phaseNumbers", fn := fun _ => fun
  | [d] => { results := [.lit (.bool true)], args := [d] }
  | _ => none }
def phaseNumbersRow : OpenClaim := { program := "ytedakilpogagiaa", sum := "e535dd48c0495ccd63dc7752accb316e32893a8dadd93e8f3a8677670c1d65c9", func := "ephemeris/ephemerislaw2.PhaseNumbers", spec := "phaseNumbers", unfollowed := true, recurses := true, apart := false }
def PhaseNumbersSaid : Prop := phaseNumbersRow.holds Try.pinned (OpenSpec.ofChange phaseNumbersSpec)

/-- ITS FALSE NEIGHBOUR: 'it returns false'. Refute it at one input. -/
def phaseNumbersWrong : ChangeSpec := { name := "phaseNumbers", fn := fun _ => fun
  | [d] => { results := [.lit (.bool false)], args := [d] }
  | _ => none }
def PhaseNumbersWrongFalsely : Prop := phaseNumbersRow.holds Try.pinned (OpenSpec.ofChange phaseNumbersWrong)

/-- 'ephemerislaw2.SharpenEarliers': WHATEVER THE INPUT: true; the input reads as it did. -/
def sharpenEarliersSpec : ChangeSpec := { name := "sharpenEarliers", fn := fun _ => fun
  | [d1, d2] => { results := [.lit (.bool true)], args := [d1, d2] }
  | _ => none }
def sharpenEarliersRow : OpenClaim := { program := "ytedakilpogagiaa", sum := "e535dd48c0495ccd63dc7752accb316e32893a8dadd93e8f3a8677670c1d65c9", func := "ephemeris/ephemerislaw2.SharpenEarliers", spec := "sharpenEarliers", unfollowed := true, recurses := true, apart := false }
def SharpenEarliersSaid : Prop := sharpenEarliersRow.holds Try.pinned (OpenSpec.ofChange sharpenEarliersSpec)

/-- ITS FALSE NEIGHBOUR: 'it returns false'. Refute it at one input. -/
def sharpenEarliersWrong : ChangeSpec := { name := "sharpenEarliers", fn := fun _ => fun
  | [d1, d2] => { results := [.lit (.bool false)], args := [d1, d2] }
  | _ => none }
def SharpenEarliersWrongFalsely : Prop := sharpenEarliersRow.holds Try.pinned (OpenSpec.ofChange sharpenEarliersWrong)

/-- 'ephemerislaw2.SeasonFinds': WHATEVER THE INPUT: true; the input reads as it did. -/
def seasonFindsSpec : ChangeSpec := { name := "seasonFinds", fn := fun _ => fun
  | [d1, d2, d3] => { results := [.lit (.bool true)], args := [d1, d2, d3] }
  | _ => none }
def seasonFindsRow : OpenClaim := { program := "ytedakilpogagiaa", sum := "e535dd48c0495ccd63dc7752accb316e32893a8dadd93e8f3a8677670c1d65c9", func := "ephemeris/ephemerislaw2.SeasonFinds", spec := "seasonFinds", unfollowed := true, recurses := true, apart := false }
def SeasonFindsSaid : Prop := seasonFindsRow.holds Try.pinned (OpenSpec.ofChange seasonFindsSpec)

/-- ITS FALSE NEIGHBOUR: 'it returns false'. Refute it at one input. -/
def seasonFindsWrong : ChangeSpec := { name := "seasonFinds", fn := fun _ => fun
  | [d1, d2, d3] => { results := [.lit (.bool false)], args := [d1, d2, d3] }
  | _ => none }
def SeasonFindsWrongFalsely : Prop := seasonFindsRow.holds Try.pinned (OpenSpec.ofChange seasonFindsWrong)

/-- 'ephemerislaw2.SeasonNexts': WHATEVER THE INPUT: true; the input reads as it did. -/
def seasonNextsSpec : ChangeSpec := { name := "seasonNexts", fn := fun _ => fun
  | [d1, d2, d3] => { results := [.lit (.bool true)], args := [d1, d2, d3] }
  | _ => none }
def seasonNextsRow : OpenClaim := { program := "ytedakilpogagiaa", sum := "e535dd48c0495ccd63dc7752accb316e32893a8dadd93e8f3a8677670c1d65c9", func := "ephemeris/ephemerislaw2.SeasonNexts", spec := "seasonNexts", unfollowed := true, recurses := true, apart := false }
def SeasonNextsSaid : Prop := seasonNextsRow.holds Try.pinned (OpenSpec.ofChange seasonNextsSpec)

/-- ITS FALSE NEIGHBOUR: 'it returns false'. Refute it at one input. -/
def seasonNextsWrong : ChangeSpec := { name := "seasonNexts", fn := fun _ => fun
  | [d1, d2, d3] => { results := [.lit (.bool false)], args := [d1, d2, d3] }
  | _ => none }
def SeasonNextsWrongFalsely : Prop := seasonNextsRow.holds Try.pinned (OpenSpec.ofChange seasonNextsWrong)

/- THE SECOND FORM. 'bulk': how many values and letters a reading holds, each counted each time it is reached (what is shared counts as often as it is met; a slice's spare places count too). A statement '..UptoSaid' is the law's where the arguments, and the package variables that the reading takes, are together of bulk at most 1048576: NARROWER than '..Said'. Prove '..Said' where nothing that the law and all that it calls make is longer than what came in: it says more and counts as full. Else prove '..UptoSaid'. A law counts once. -/
mutual
def uptoBulk {H : Type} : DataW H → Nat
  | .lit (.string bytes) => bytes.length + 1
  | .lit _ => 1
  | .nil => 1
  | .ptr d => uptoBulk d + 1
  | .slice elems spare => uptoBulkAll elems + uptoBulkAll spare + 1
  | .agg parts => uptoBulkAll parts + 1
  | .iface _ d => uptoBulk d + 1
  | .map entries => uptoBulkEntries entries + 1
  | .held _ => 1
def uptoBulkAll {H : Type} : List (DataW H) → Nat
  | [] => 0
  | d :: r => uptoBulk d + uptoBulkAll r
def uptoBulkEntries {H : Type} : List (Lit × DataW H) → Nat
  | [] => 0
  | x :: r => uptoBulkEntry x + uptoBulkEntries r
def uptoBulkEntry {H : Type} : Lit × DataW H → Nat
  | (.string bytes, d) => bytes.length + uptoBulk d + 1
  | (_, d) => uptoBulk d + 1
 end
def uptoSmall : (H : Type) → List (DataW H) → Bool := fun _ ds => decide (uptoBulkAll ds ≤ 1048576)
def OpenSpec.upto (s : _root_.Go.ChangeSpec) : _root_.Go.OpenSpec := { _root_.Go.OpenSpec.ofChange s with cond := some uptoSmall }

/-- 'ephemerislaw2.SunEquators', WHERE WHAT IT READS IS OF BULK AT MOST 1048576: true; the input reads as it did. -/
def sunEquatorsUptoRow : OpenClaim := { program := "ytedakilpogagiaa", sum := "e535dd48c0495ccd63dc7752accb316e32893a8dadd93e8f3a8677670c1d65c9", func := "ephemeris/ephemerislaw2.SunEquators", spec := "sunEquators", apart := false, narrowed := true }
def SunEquatorsUptoSaid : Prop := sunEquatorsUptoRow.holds Try.pinned (OpenSpec.upto sunEquatorsSpec)

/-- 'ephemerislaw2.SunAts', WHERE WHAT IT READS IS OF BULK AT MOST 1048576: true; the input reads as it did. -/
def sunAtsUptoRow : OpenClaim := { program := "ytedakilpogagiaa", sum := "e535dd48c0495ccd63dc7752accb316e32893a8dadd93e8f3a8677670c1d65c9", func := "ephemeris/ephemerislaw2.SunAts", spec := "sunAts", apart := false, narrowed := true }
def SunAtsUptoSaid : Prop := sunAtsUptoRow.holds Try.pinned (OpenSpec.upto sunAtsSpec)

/-- 'ephemerislaw2.MoonAts', WHERE WHAT IT READS IS OF BULK AT MOST 1048576: true; the input reads as it did. -/
def moonAtsUptoRow : OpenClaim := { program := "ytedakilpogagiaa", sum := "e535dd48c0495ccd63dc7752accb316e32893a8dadd93e8f3a8677670c1d65c9", func := "ephemeris/ephemerislaw2.MoonAts", spec := "moonAts", apart := false, narrowed := true }
def MoonAtsUptoSaid : Prop := moonAtsUptoRow.holds Try.pinned (OpenSpec.upto moonAtsSpec)

/-- 'ephemerislaw2.PlaceHeights', WHERE WHAT IT READS IS OF BULK AT MOST 1048576: true; the input reads as it did. -/
def placeHeightsUptoRow : OpenClaim := { program := "ytedakilpogagiaa", sum := "e535dd48c0495ccd63dc7752accb316e32893a8dadd93e8f3a8677670c1d65c9", func := "ephemeris/ephemerislaw2.PlaceHeights", spec := "placeHeights", apart := false, narrowed := true }
def PlaceHeightsUptoSaid : Prop := placeHeightsUptoRow.holds Try.pinned (OpenSpec.upto placeHeightsSpec)

/-- 'ephemerislaw2.DialLines', WHERE WHAT IT READS IS OF BULK AT MOST 1048576: true; the input reads as it did. -/
def dialLinesUptoRow : OpenClaim := { program := "ytedakilpogagiaa", sum := "e535dd48c0495ccd63dc7752accb316e32893a8dadd93e8f3a8677670c1d65c9", func := "ephemeris/ephemerislaw2.DialLines", spec := "dialLines", apart := false, narrowed := true }
def DialLinesUptoSaid : Prop := dialLinesUptoRow.holds Try.pinned (OpenSpec.upto dialLinesSpec)

/-- 'ephemerislaw2.DialShadows', WHERE WHAT IT READS IS OF BULK AT MOST 1048576: true; the input reads as it did. -/
def dialShadowsUptoRow : OpenClaim := { program := "ytedakilpogagiaa", sum := "e535dd48c0495ccd63dc7752accb316e32893a8dadd93e8f3a8677670c1d65c9", func := "ephemeris/ephemerislaw2.DialShadows", spec := "dialShadows", apart := false, narrowed := true }
def DialShadowsUptoSaid : Prop := dialShadowsUptoRow.holds Try.pinned (OpenSpec.upto dialShadowsSpec)

/-- 'ephemerislaw2.RisesetAboves', WHERE WHAT IT READS IS OF BULK AT MOST 1048576: true; the input reads as it did. -/
def risesetAbovesUptoRow : OpenClaim := { program := "ytedakilpogagiaa", sum := "e535dd48c0495ccd63dc7752accb316e32893a8dadd93e8f3a8677670c1d65c9", func := "ephemeris/ephemerislaw2.RisesetAboves", spec := "risesetAboves", unfollowed := true, recurses := true, apart := false, narrowed := true }
def RisesetAbovesUptoSaid : Prop := risesetAbovesUptoRow.holds Try.pinned (OpenSpec.upto risesetAbovesSpec)

/-- 'ephemerislaw2.PhaseFinds', WHERE WHAT IT READS IS OF BULK AT MOST 1048576: true; the input reads as it did. -/
def phaseFindsUptoRow : OpenClaim := { program := "ytedakilpogagiaa", sum := "e535dd48c0495ccd63dc7752accb316e32893a8dadd93e8f3a8677670c1d65c9", func := "ephemeris/ephemerislaw2.PhaseFinds", spec := "phaseFinds", unfollowed := true, recurses := true, apart := false, narrowed := true }
def PhaseFindsUptoSaid : Prop := phaseFindsUptoRow.holds Try.pinned (OpenSpec.upto phaseFindsSpec)

/-- 'ephemerislaw2.PhaseNumbers', WHERE WHAT IT READS IS OF BULK AT MOST 1048576: true; the input reads as it did. -/
def phaseNumbersUptoRow : OpenClaim := { program := "ytedakilpogagiaa", sum := "e535dd48c0495ccd63dc7752accb316e32893a8dadd93e8f3a8677670c1d65c9", func := "ephemeris/ephemerislaw2.PhaseNumbers", spec := "phaseNumbers", unfollowed := true, recurses := true, apart := false, narrowed := true }
def PhaseNumbersUptoSaid : Prop := phaseNumbersUptoRow.holds Try.pinned (OpenSpec.upto phaseNumbersSpec)

/-- 'ephemerislaw2.SharpenEarliers', WHERE WHAT IT READS IS OF BULK AT MOST 1048576: true; the input reads as it did. -/
def sharpenEarliersUptoRow : OpenClaim := { program := "ytedakilpogagiaa", sum := "e535dd48c0495ccd63dc7752accb316e32893a8dadd93e8f3a8677670c1d65c9", func := "ephemeris/ephemerislaw2.SharpenEarliers", spec := "sharpenEarliers", unfollowed := true, recurses := true, apart := false, narrowed := true }
def SharpenEarliersUptoSaid : Prop := sharpenEarliersUptoRow.holds Try.pinned (OpenSpec.upto sharpenEarliersSpec)

/-- 'ephemerislaw2.SeasonFinds', WHERE WHAT IT READS IS OF BULK AT MOST 1048576: true; the input reads as it did. -/
def seasonFindsUptoRow : OpenClaim := { program := "ytedakilpogagiaa", sum := "e535dd48c0495ccd63dc7752accb316e32893a8dadd93e8f3a8677670c1d65c9", func := "ephemeris/ephemerislaw2.SeasonFinds", spec := "seasonFinds", unfollowed := true, recurses := true, apart := false, narrowed := true }
def SeasonFindsUptoSaid : Prop := seasonFindsUptoRow.holds Try.pinned (OpenSpec.upto seasonFindsSpec)

/-- 'ephemerislaw2.SeasonNexts', WHERE WHAT IT READS IS OF BULK AT MOST 1048576: true; the input reads as it did. -/
def seasonNextsUptoRow : OpenClaim := { program := "ytedakilpogagiaa", sum := "e535dd48c0495ccd63dc7752accb316e32893a8dadd93e8f3a8677670c1d65c9", func := "ephemeris/ephemerislaw2.SeasonNexts", spec := "seasonNexts", unfollowed := true, recurses := true, apart := false, narrowed := true }
def SeasonNextsUptoSaid : Prop := seasonNextsUptoRow.holds Try.pinned (OpenSpec.upto seasonNextsSpec)

end Rows
end Go.Proofs.Ytedakilpogagiaa
