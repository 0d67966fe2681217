/-
  No cell of these rows narrows 'for every input' (looked for: loops, veiled, ifaces, maps, wideKeys, modest, calm, conditions, laid).
  DERIVED. THE GIVEN ROWS OF THIS SEAT. 13 by the template 'for every input the law returns true; each argument reads behind the call as it read before'; 0 by the template 'total and deterministic' (their statements: YtelcegpaakbppaaTotals.lean).
  GIVEN WITH THE SEED: the statements are not yours to turn. If you find one false, say at which input.
  Laid BY PROGRAM, IN A SANDBOX (cutbox-rows.mjs): the forced cells as the released guide's own fill.sh prints them over the translation 2134a6006311cd9a… (all of the seat's roots in one cut). By AI agents, Wed Nov 11 2026. No macro, syntax, notation, axiom, sorry.
-/
import Derived.Test.YtelcegpaakbppaaChecked
import GoSem.Claim
import GoSem.ClaimJoined
import GoSem.ClaimMapViews
import Derived.JoinedTies
import Derived.KernelRfl
namespace Go.Proofs.Ytelcegpaakbppaa
/- THE CELL 'sum', in the pinned program and in every row, IS THE sha256 OF THE DUMP (.gsa) THAT YtelcegpaakbppaaProg.lean LOADS. Nothing in Lean hashes anything: it is a label: what it is worth is what the hold of that sum in a sandbox is worth. -/
noncomputable def Try.pinned : Pinned := { name := "ytelcegpaakbppaa", sum := "2134a6006311cd9a1dcdb0a4c919ebfa1e2537ceeb70b61e801053654e446778", checked := Try.checked }
namespace Rows
def none {H : Type} : Left H := { results := [], args := [] }

/-- 'ephemerislaw2.TrigSins': WHATEVER THE INPUT: true; the input reads as it did. -/
def trigSinsSpec : ChangeSpec := { name := "trigSins", fn := fun _ => fun
  | [d] => { results := [.lit (.bool true)], args := [d] }
  | _ => none }
def trigSinsRow : OpenClaim := { program := "ytelcegpaakbppaa", sum := "2134a6006311cd9a1dcdb0a4c919ebfa1e2537ceeb70b61e801053654e446778", func := "ephemeris/ephemerislaw2.TrigSins", spec := "trigSins", apart := false }
def TrigSinsSaid : Prop := trigSinsRow.holds Try.pinned (OpenSpec.ofChange trigSinsSpec)

/-- ITS FALSE NEIGHBOUR: 'it returns false'. Refute it at one input. -/
def trigSinsWrong : ChangeSpec := { name := "trigSins", fn := fun _ => fun
  | [d] => { results := [.lit (.bool false)], args := [d] }
  | _ => none }
def TrigSinsWrongFalsely : Prop := trigSinsRow.holds Try.pinned (OpenSpec.ofChange trigSinsWrong)

/-- 'ephemerislaw2.TrigArcs': WHATEVER THE INPUT: true; the input reads as it did. -/
def trigArcsSpec : ChangeSpec := { name := "trigArcs", fn := fun _ => fun
  | [d1, d2] => { results := [.lit (.bool true)], args := [d1, d2] }
  | _ => none }
def trigArcsRow : OpenClaim := { program := "ytelcegpaakbppaa", sum := "2134a6006311cd9a1dcdb0a4c919ebfa1e2537ceeb70b61e801053654e446778", func := "ephemeris/ephemerislaw2.TrigArcs", spec := "trigArcs", apart := false }
def TrigArcsSaid : Prop := trigArcsRow.holds Try.pinned (OpenSpec.ofChange trigArcsSpec)

/-- ITS FALSE NEIGHBOUR: 'it returns false'. Refute it at one input. -/
def trigArcsWrong : ChangeSpec := { name := "trigArcs", fn := fun _ => fun
  | [d1, d2] => { results := [.lit (.bool false)], args := [d1, d2] }
  | _ => none }
def TrigArcsWrongFalsely : Prop := trigArcsRow.holds Try.pinned (OpenSpec.ofChange trigArcsWrong)

/-- 'ephemerislaw2.TrigRoots': WHATEVER THE INPUT: true; the input reads as it did. -/
def trigRootsSpec : ChangeSpec := { name := "trigRoots", fn := fun _ => fun
  | [d] => { results := [.lit (.bool true)], args := [d] }
  | _ => none }
def trigRootsRow : OpenClaim := { program := "ytelcegpaakbppaa", sum := "2134a6006311cd9a1dcdb0a4c919ebfa1e2537ceeb70b61e801053654e446778", func := "ephemeris/ephemerislaw2.TrigRoots", spec := "trigRoots", apart := false }
def TrigRootsSaid : Prop := trigRootsRow.holds Try.pinned (OpenSpec.ofChange trigRootsSpec)

/-- ITS FALSE NEIGHBOUR: 'it returns false'. Refute it at one input. -/
def trigRootsWrong : ChangeSpec := { name := "trigRoots", fn := fun _ => fun
  | [d] => { results := [.lit (.bool false)], args := [d] }
  | _ => none }
def TrigRootsWrongFalsely : Prop := trigRootsRow.holds Try.pinned (OpenSpec.ofChange trigRootsWrong)

/-- 'ephemerislaw2.TrigArcSins': WHATEVER THE INPUT: true; the input reads as it did. -/
def trigArcSinsSpec : ChangeSpec := { name := "trigArcSins", fn := fun _ => fun
  | [d] => { results := [.lit (.bool true)], args := [d] }
  | _ => none }
def trigArcSinsRow : OpenClaim := { program := "ytelcegpaakbppaa", sum := "2134a6006311cd9a1dcdb0a4c919ebfa1e2537ceeb70b61e801053654e446778", func := "ephemeris/ephemerislaw2.TrigArcSins", spec := "trigArcSins", apart := false }
def TrigArcSinsSaid : Prop := trigArcSinsRow.holds Try.pinned (OpenSpec.ofChange trigArcSinsSpec)

/-- ITS FALSE NEIGHBOUR: 'it returns false'. Refute it at one input. -/
def trigArcSinsWrong : ChangeSpec := { name := "trigArcSins", fn := fun _ => fun
  | [d] => { results := [.lit (.bool false)], args := [d] }
  | _ => none }
def TrigArcSinsWrongFalsely : Prop := trigArcSinsRow.holds Try.pinned (OpenSpec.ofChange trigArcSinsWrong)

/-- 'ephemerislaw2.TrigOvers': WHATEVER THE INPUT: true; the input reads as it did. -/
def trigOversSpec : ChangeSpec := { name := "trigOvers", fn := fun _ => fun
  | [d1, d2] => { results := [.lit (.bool true)], args := [d1, d2] }
  | _ => none }
def trigOversRow : OpenClaim := { program := "ytelcegpaakbppaa", sum := "2134a6006311cd9a1dcdb0a4c919ebfa1e2537ceeb70b61e801053654e446778", func := "ephemeris/ephemerislaw2.TrigOvers", spec := "trigOvers", apart := false }
def TrigOversSaid : Prop := trigOversRow.holds Try.pinned (OpenSpec.ofChange trigOversSpec)

/-- ITS FALSE NEIGHBOUR: 'it returns false'. Refute it at one input. -/
def trigOversWrong : ChangeSpec := { name := "trigOvers", fn := fun _ => fun
  | [d1, d2] => { results := [.lit (.bool false)], args := [d1, d2] }
  | _ => none }
def TrigOversWrongFalsely : Prop := trigOversRow.holds Try.pinned (OpenSpec.ofChange trigOversWrong)

/-- 'ephemerislaw2.AstrolabeRings': WHATEVER THE INPUT: true; the input reads as it did. -/
def astrolabeRingsSpec : ChangeSpec := { name := "astrolabeRings", fn := fun _ => fun
  | [d] => { results := [.lit (.bool true)], args := [d] }
  | _ => none }
def astrolabeRingsRow : OpenClaim := { program := "ytelcegpaakbppaa", sum := "2134a6006311cd9a1dcdb0a4c919ebfa1e2537ceeb70b61e801053654e446778", func := "ephemeris/ephemerislaw2.AstrolabeRings", spec := "astrolabeRings", apart := false }
def AstrolabeRingsSaid : Prop := astrolabeRingsRow.holds Try.pinned (OpenSpec.ofChange astrolabeRingsSpec)

/-- ITS FALSE NEIGHBOUR: 'it returns false'. Refute it at one input. -/
def astrolabeRingsWrong : ChangeSpec := { name := "astrolabeRings", fn := fun _ => fun
  | [d] => { results := [.lit (.bool false)], args := [d] }
  | _ => none }
def AstrolabeRingsWrongFalsely : Prop := astrolabeRingsRow.holds Try.pinned (OpenSpec.ofChange astrolabeRingsWrong)

/-- 'ephemerislaw2.AstrolabeAlmucantars': WHATEVER THE INPUT: true; the input reads as it did. -/
def astrolabeAlmucantarsSpec : ChangeSpec := { name := "astrolabeAlmucantars", fn := fun _ => fun
  | [d1, d2] => { results := [.lit (.bool true)], args := [d1, d2] }
  | _ => none }
def astrolabeAlmucantarsRow : OpenClaim := { program := "ytelcegpaakbppaa", sum := "2134a6006311cd9a1dcdb0a4c919ebfa1e2537ceeb70b61e801053654e446778", func := "ephemeris/ephemerislaw2.AstrolabeAlmucantars", spec := "astrolabeAlmucantars", apart := false }
def AstrolabeAlmucantarsSaid : Prop := astrolabeAlmucantarsRow.holds Try.pinned (OpenSpec.ofChange astrolabeAlmucantarsSpec)

/-- ITS FALSE NEIGHBOUR: 'it returns false'. Refute it at one input. -/
def astrolabeAlmucantarsWrong : ChangeSpec := { name := "astrolabeAlmucantars", fn := fun _ => fun
  | [d1, d2] => { results := [.lit (.bool false)], args := [d1, d2] }
  | _ => none }
def AstrolabeAlmucantarsWrongFalsely : Prop := astrolabeAlmucantarsRow.holds Try.pinned (OpenSpec.ofChange astrolabeAlmucantarsWrong)

/-- 'ephemerislaw2.AstrolabeStars': WHATEVER THE INPUT: true; the input reads as it did. -/
def astrolabeStarsSpec : ChangeSpec := { name := "astrolabeStars", fn := fun _ => fun
  | [d1, d2] => { results := [.lit (.bool true)], args := [d1, d2] }
  | _ => none }
def astrolabeStarsRow : OpenClaim := { program := "ytelcegpaakbppaa", sum := "2134a6006311cd9a1dcdb0a4c919ebfa1e2537ceeb70b61e801053654e446778", func := "ephemeris/ephemerislaw2.AstrolabeStars", spec := "astrolabeStars", apart := false }
def AstrolabeStarsSaid : Prop := astrolabeStarsRow.holds Try.pinned (OpenSpec.ofChange astrolabeStarsSpec)

/-- ITS FALSE NEIGHBOUR: 'it returns false'. Refute it at one input. -/
def astrolabeStarsWrong : ChangeSpec := { name := "astrolabeStars", fn := fun _ => fun
  | [d1, d2] => { results := [.lit (.bool false)], args := [d1, d2] }
  | _ => none }
def AstrolabeStarsWrongFalsely : Prop := astrolabeStarsRow.holds Try.pinned (OpenSpec.ofChange astrolabeStarsWrong)

/-- 'ephemerislaw2.SeriesChecks': WHATEVER THE INPUT: true; the input reads as it did. -/
def seriesChecksSpec : ChangeSpec := { name := "seriesChecks", fn := fun _ => fun
  | [d] => { results := [.lit (.bool true)], args := [d] }
  | _ => none }
def seriesChecksRow : OpenClaim := { program := "ytelcegpaakbppaa", sum := "2134a6006311cd9a1dcdb0a4c919ebfa1e2537ceeb70b61e801053654e446778", func := "ephemeris/ephemerislaw2.SeriesChecks", spec := "seriesChecks", apart := false }
def SeriesChecksSaid : Prop := seriesChecksRow.holds Try.pinned (OpenSpec.ofChange seriesChecksSpec)

/-- ITS FALSE NEIGHBOUR: 'it returns false'. Refute it at one input. -/
def seriesChecksWrong : ChangeSpec := { name := "seriesChecks", fn := fun _ => fun
  | [d] => { results := [.lit (.bool false)], args := [d] }
  | _ => none }
def SeriesChecksWrongFalsely : Prop := seriesChecksRow.holds Try.pinned (OpenSpec.ofChange seriesChecksWrong)

/-- 'ephemerislaw2.SeriesValues': WHATEVER THE INPUT: true; the input reads as it did. -/
def seriesValuesSpec : ChangeSpec := { name := "seriesValues", fn := fun _ => fun
  | [d1, d2] => { results := [.lit (.bool true)], args := [d1, d2] }
  | _ => none }
def seriesValuesRow : OpenClaim := { program := "ytelcegpaakbppaa", sum := "2134a6006311cd9a1dcdb0a4c919ebfa1e2537ceeb70b61e801053654e446778", func := "ephemeris/ephemerislaw2.SeriesValues", spec := "seriesValues", apart := false }
def SeriesValuesSaid : Prop := seriesValuesRow.holds Try.pinned (OpenSpec.ofChange seriesValuesSpec)

/-- ITS FALSE NEIGHBOUR: 'it returns false'. Refute it at one input. -/
def seriesValuesWrong : ChangeSpec := { name := "seriesValues", fn := fun _ => fun
  | [d1, d2] => { results := [.lit (.bool false)], args := [d1, d2] }
  | _ => none }
def SeriesValuesWrongFalsely : Prop := seriesValuesRow.holds Try.pinned (OpenSpec.ofChange seriesValuesWrong)

/-- 'ephemerislaw2.SeriesAngles': WHATEVER THE INPUT: true; the input reads as it did. -/
def seriesAnglesSpec : ChangeSpec := { name := "seriesAngles", fn := fun _ => fun
  | [d1, d2] => { results := [.lit (.bool true)], args := [d1, d2] }
  | _ => none }
def seriesAnglesRow : OpenClaim := { program := "ytelcegpaakbppaa", sum := "2134a6006311cd9a1dcdb0a4c919ebfa1e2537ceeb70b61e801053654e446778", func := "ephemeris/ephemerislaw2.SeriesAngles", spec := "seriesAngles", apart := false }
def SeriesAnglesSaid : Prop := seriesAnglesRow.holds Try.pinned (OpenSpec.ofChange seriesAnglesSpec)

/-- ITS FALSE NEIGHBOUR: 'it returns false'. Refute it at one input. -/
def seriesAnglesWrong : ChangeSpec := { name := "seriesAngles", fn := fun _ => fun
  | [d1, d2] => { results := [.lit (.bool false)], args := [d1, d2] }
  | _ => none }
def SeriesAnglesWrongFalsely : Prop := seriesAnglesRow.holds Try.pinned (OpenSpec.ofChange seriesAnglesWrong)

/-- 'ephemerislaw2.SeriesSlopes': WHATEVER THE INPUT: true; the input reads as it did. -/
def seriesSlopesSpec : ChangeSpec := { name := "seriesSlopes", fn := fun _ => fun
  | [d1, d2] => { results := [.lit (.bool true)], args := [d1, d2] }
  | _ => none }
def seriesSlopesRow : OpenClaim := { program := "ytelcegpaakbppaa", sum := "2134a6006311cd9a1dcdb0a4c919ebfa1e2537ceeb70b61e801053654e446778", func := "ephemeris/ephemerislaw2.SeriesSlopes", spec := "seriesSlopes", apart := false }
def SeriesSlopesSaid : Prop := seriesSlopesRow.holds Try.pinned (OpenSpec.ofChange seriesSlopesSpec)

/-- ITS FALSE NEIGHBOUR: 'it returns false'. Refute it at one input. -/
def seriesSlopesWrong : ChangeSpec := { name := "seriesSlopes", fn := fun _ => fun
  | [d1, d2] => { results := [.lit (.bool false)], args := [d1, d2] }
  | _ => none }
def SeriesSlopesWrongFalsely : Prop := seriesSlopesRow.holds Try.pinned (OpenSpec.ofChange seriesSlopesWrong)

/-- 'ephemerislaw2.SeriesCrosses': WHATEVER THE INPUT: true; the input reads as it did. -/
def seriesCrossesSpec : ChangeSpec := { name := "seriesCrosses", fn := fun _ => fun
  | [d1, d2, d3, d4] => { results := [.lit (.bool true)], args := [d1, d2, d3, d4] }
  | _ => none }
def seriesCrossesRow : OpenClaim := { program := "ytelcegpaakbppaa", sum := "2134a6006311cd9a1dcdb0a4c919ebfa1e2537ceeb70b61e801053654e446778", func := "ephemeris/ephemerislaw2.SeriesCrosses", spec := "seriesCrosses", unfollowed := true, recurses := true, apart := false }
def SeriesCrossesSaid : Prop := seriesCrossesRow.holds Try.pinned (OpenSpec.ofChange seriesCrossesSpec)

/-- ITS FALSE NEIGHBOUR: 'it returns false'. Refute it at one input. -/
def seriesCrossesWrong : ChangeSpec := { name := "seriesCrosses", fn := fun _ => fun
  | [d1, d2, d3, d4] => { results := [.lit (.bool false)], args := [d1, d2, d3, d4] }
  | _ => none }
def SeriesCrossesWrongFalsely : Prop := seriesCrossesRow.holds Try.pinned (OpenSpec.ofChange seriesCrossesWrong)

/- THE SECOND FORM. 'bulk': how many values and letters a reading holds, each counted each time it is reached (what is shared counts as often as it is met; a slice's spare places count too). A statement '..UptoSaid' is the law's where the arguments, and the package variables that the reading takes, are together of bulk at most 1048576: NARROWER than '..Said'. Prove '..Said' where nothing that the law and all that it calls make is longer than what came in: it says more and counts as full. Else prove '..UptoSaid'. A law counts once. -/
mutual
def uptoBulk {H : Type} : DataW H → Nat
  | .lit (.string bytes) => bytes.length + 1
  | .lit _ => 1
  | .nil => 1
  | .ptr d => uptoBulk d + 1
  | .slice elems spare => uptoBulkAll elems + uptoBulkAll spare + 1
  | .agg parts => uptoBulkAll parts + 1
  | .iface _ d => uptoBulk d + 1
  | .map entries => uptoBulkEntries entries + 1
  | .held _ => 1
def uptoBulkAll {H : Type} : List (DataW H) → Nat
  | [] => 0
  | d :: r => uptoBulk d + uptoBulkAll r
def uptoBulkEntries {H : Type} : List (Lit × DataW H) → Nat
  | [] => 0
  | x :: r => uptoBulkEntry x + uptoBulkEntries r
def uptoBulkEntry {H : Type} : Lit × DataW H → Nat
  | (.string bytes, d) => bytes.length + uptoBulk d + 1
  | (_, d) => uptoBulk d + 1
 end
def uptoSmall : (H : Type) → List (DataW H) → Bool := fun _ ds => decide (uptoBulkAll ds ≤ 1048576)
def OpenSpec.upto (s : _root_.Go.ChangeSpec) : _root_.Go.OpenSpec := { _root_.Go.OpenSpec.ofChange s with cond := some uptoSmall }

/-- 'ephemerislaw2.TrigSins', WHERE WHAT IT READS IS OF BULK AT MOST 1048576: true; the input reads as it did. -/
def trigSinsUptoRow : OpenClaim := { program := "ytelcegpaakbppaa", sum := "2134a6006311cd9a1dcdb0a4c919ebfa1e2537ceeb70b61e801053654e446778", func := "ephemeris/ephemerislaw2.TrigSins", spec := "trigSins", apart := false, narrowed := true }
def TrigSinsUptoSaid : Prop := trigSinsUptoRow.holds Try.pinned (OpenSpec.upto trigSinsSpec)

/-- 'ephemerislaw2.TrigArcs', WHERE WHAT IT READS IS OF BULK AT MOST 1048576: true; the input reads as it did. -/
def trigArcsUptoRow : OpenClaim := { program := "ytelcegpaakbppaa", sum := "2134a6006311cd9a1dcdb0a4c919ebfa1e2537ceeb70b61e801053654e446778", func := "ephemeris/ephemerislaw2.TrigArcs", spec := "trigArcs", apart := false, narrowed := true }
def TrigArcsUptoSaid : Prop := trigArcsUptoRow.holds Try.pinned (OpenSpec.upto trigArcsSpec)

/-- 'ephemerislaw2.TrigRoots', WHERE WHAT IT READS IS OF BULK AT MOST 1048576: true; the input reads as it did. -/
def trigRootsUptoRow : OpenClaim := { program := "ytelcegpaakbppaa", sum := "2134a6006311cd9a1dcdb0a4c919ebfa1e2537ceeb70b61e801053654e446778", func := "ephemeris/ephemerislaw2.TrigRoots", spec := "trigRoots", apart := false, narrowed := true }
def TrigRootsUptoSaid : Prop := trigRootsUptoRow.holds Try.pinned (OpenSpec.upto trigRootsSpec)

/-- 'ephemerislaw2.TrigArcSins', WHERE WHAT IT READS IS OF BULK AT MOST 1048576: true; the input reads as it did. -/
def trigArcSinsUptoRow : OpenClaim := { program := "ytelcegpaakbppaa", sum := "2134a6006311cd9a1dcdb0a4c919ebfa1e2537ceeb70b61e801053654e446778", func := "ephemeris/ephemerislaw2.TrigArcSins", spec := "trigArcSins", apart := false, narrowed := true }
def TrigArcSinsUptoSaid : Prop := trigArcSinsUptoRow.holds Try.pinned (OpenSpec.upto trigArcSinsSpec)

/-- 'ephemerislaw2.TrigOvers', WHERE WHAT IT READS IS OF BULK AT MOST 1048576: true; the input reads as it did. -/
def trigOversUptoRow : OpenClaim := { program := "ytelcegpaakbppaa", sum := "2134a6006311cd9a1dcdb0a4c919ebfa1e2537ceeb70b61e801053654e446778", func := "ephemeris/ephemerislaw2.TrigOvers", spec := "trigOvers", apart := false, narrowed := true }
def TrigOversUptoSaid : Prop := trigOversUptoRow.holds Try.pinned (OpenSpec.upto trigOversSpec)

/-- 'ephemerislaw2.AstrolabeRings', WHERE WHAT IT READS IS OF BULK AT MOST 1048576: true; the input reads as it did. -/
def astrolabeRingsUptoRow : OpenClaim := { program := "ytelcegpaakbppaa", sum := "2134a6006311cd9a1dcdb0a4c919ebfa1e2537ceeb70b61e801053654e446778", func := "ephemeris/ephemerislaw2.AstrolabeRings", spec := "astrolabeRings", apart := false, narrowed := true }
def AstrolabeRingsUptoSaid : Prop := astrolabeRingsUptoRow.holds Try.pinned (OpenSpec.upto astrolabeRingsSpec)

/-- 'ephemerislaw2.AstrolabeAlmucantars', WHERE WHAT IT READS IS OF BULK AT MOST 1048576: true; the input reads as it did. -/
def astrolabeAlmucantarsUptoRow : OpenClaim := { program := "ytelcegpaakbppaa", sum := "2134a6006311cd9a1dcdb0a4c919ebfa1e2537ceeb70b61e801053654e446778", func := "ephemeris/ephemerislaw2.AstrolabeAlmucantars", spec := "astrolabeAlmucantars", apart := false, narrowed := true }
def AstrolabeAlmucantarsUptoSaid : Prop := astrolabeAlmucantarsUptoRow.holds Try.pinned (OpenSpec.upto astrolabeAlmucantarsSpec)

/-- 'ephemerislaw2.AstrolabeStars', WHERE WHAT IT READS IS OF BULK AT MOST 1048576: true; the input reads as it did. -/
def astrolabeStarsUptoRow : OpenClaim := { program := "ytelcegpaakbppaa", sum := "2134a6006311cd9a1dcdb0a4c919ebfa1e2537ceeb70b61e801053654e446778", func := "ephemeris/ephemerislaw2.AstrolabeStars", spec := "astrolabeStars", apart := false, narrowed := true }
def AstrolabeStarsUptoSaid : Prop := astrolabeStarsUptoRow.holds Try.pinned (OpenSpec.upto astrolabeStarsSpec)

/-- 'ephemerislaw2.SeriesChecks', WHERE WHAT IT READS IS OF BULK AT MOST 1048576: true; the input reads as it did. -/
def seriesChecksUptoRow : OpenClaim := { program := "ytelcegpaakbppaa", sum := "2134a6006311cd9a1dcdb0a4c919ebfa1e2537ceeb70b61e801053654e446778", func := "ephemeris/ephemerislaw2.SeriesChecks", spec := "seriesChecks", apart := false, narrowed := true }
def SeriesChecksUptoSaid : Prop := seriesChecksUptoRow.holds Try.pinned (OpenSpec.upto seriesChecksSpec)

/-- 'ephemerislaw2.SeriesValues', WHERE WHAT IT READS IS OF BULK AT MOST 1048576: true; the input reads as it did. -/
def seriesValuesUptoRow : OpenClaim := { program := "ytelcegpaakbppaa", sum := "2134a6006311cd9a1dcdb0a4c919ebfa1e2537ceeb70b61e801053654e446778", func := "ephemeris/ephemerislaw2.SeriesValues", spec := "seriesValues", apart := false, narrowed := true }
def SeriesValuesUptoSaid : Prop := seriesValuesUptoRow.holds Try.pinned (OpenSpec.upto seriesValuesSpec)

/-- 'ephemerislaw2.SeriesAngles', WHERE WHAT IT READS IS OF BULK AT MOST 1048576: true; the input reads as it did. -/
def seriesAnglesUptoRow : OpenClaim := { program := "ytelcegpaakbppaa", sum := "2134a6006311cd9a1dcdb0a4c919ebfa1e2537ceeb70b61e801053654e446778", func := "ephemeris/ephemerislaw2.SeriesAngles", spec := "seriesAngles", apart := false, narrowed := true }
def SeriesAnglesUptoSaid : Prop := seriesAnglesUptoRow.holds Try.pinned (OpenSpec.upto seriesAnglesSpec)

/-- 'ephemerislaw2.SeriesSlopes', WHERE WHAT IT READS IS OF BULK AT MOST 1048576: true; the input reads as it did. -/
def seriesSlopesUptoRow : OpenClaim := { program := "ytelcegpaakbppaa", sum := "2134a6006311cd9a1dcdb0a4c919ebfa1e2537ceeb70b61e801053654e446778", func := "ephemeris/ephemerislaw2.SeriesSlopes", spec := "seriesSlopes", apart := false, narrowed := true }
def SeriesSlopesUptoSaid : Prop := seriesSlopesUptoRow.holds Try.pinned (OpenSpec.upto seriesSlopesSpec)

/-- 'ephemerislaw2.SeriesCrosses', WHERE WHAT IT READS IS OF BULK AT MOST 1048576: true; the input reads as it did. -/
def seriesCrossesUptoRow : OpenClaim := { program := "ytelcegpaakbppaa", sum := "2134a6006311cd9a1dcdb0a4c919ebfa1e2537ceeb70b61e801053654e446778", func := "ephemeris/ephemerislaw2.SeriesCrosses", spec := "seriesCrosses", unfollowed := true, recurses := true, apart := false, narrowed := true }
def SeriesCrossesUptoSaid : Prop := seriesCrossesUptoRow.holds Try.pinned (OpenSpec.upto seriesCrossesSpec)

end Rows
end Go.Proofs.Ytelcegpaakbppaa
