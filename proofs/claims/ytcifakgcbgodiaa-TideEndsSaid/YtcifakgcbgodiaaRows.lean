/-
  No cell of these rows narrows 'for every input' (looked for: loops, veiled, ifaces, maps, wideKeys, modest, calm, conditions, laid).
  DERIVED. THE GIVEN ROWS OF THIS SEAT. 11 by the template 'for every input the law returns true; each argument reads behind the call as it read before'; 0 by the template 'total and deterministic' (their statements: YtcifakgcbgodiaaTotals.lean).
  GIVEN WITH THE SEED: the statements are not yours to turn. If you find one false, say at which input.
  Laid BY PROGRAM, IN A SANDBOX (cutbox-rows.mjs): the forced cells as the released guide's own fill.sh prints them over the translation c032f171b9cb8524… (all of the seat's roots in one cut). By AI agents, Wed Nov 11 2026. No macro, syntax, notation, axiom, sorry.
-/
import Derived.Test.YtcifakgcbgodiaaChecked
import GoSem.Claim
import GoSem.ClaimJoined
import GoSem.ClaimMapViews
import Derived.JoinedTies
import Derived.KernelRfl
namespace Go.Proofs.Ytcifakgcbgodiaa
/- THE CELL 'sum', in the pinned program and in every row, IS THE sha256 OF THE DUMP (.gsa) THAT YtcifakgcbgodiaaProg.lean LOADS. Nothing in Lean hashes anything: it is a label: what it is worth is what the hold of that sum in a sandbox is worth. -/
noncomputable def Try.pinned : Pinned := { name := "ytcifakgcbgodiaa", sum := "c032f171b9cb8524e706ee27fcfb6842a8c94193a8008b5835009acf63abf514", checked := Try.checked }
namespace Rows
def none {H : Type} : Left H := { results := [], args := [] }

/-- 'ephemerislaw2.MoonLongitudes': WHATEVER THE INPUT: true; the input reads as it did. -/
def moonLongitudesSpec : ChangeSpec := { name := "moonLongitudes", fn := fun _ => fun
  | [d1, d2] => { results := [.lit (.bool true)], args := [d1, d2] }
  | _ => none }
def moonLongitudesRow : OpenClaim := { program := "ytcifakgcbgodiaa", sum := "c032f171b9cb8524e706ee27fcfb6842a8c94193a8008b5835009acf63abf514", func := "ephemeris/ephemerislaw2.MoonLongitudes", spec := "moonLongitudes", apart := false }
def MoonLongitudesSaid : Prop := moonLongitudesRow.holds Try.pinned (OpenSpec.ofChange moonLongitudesSpec)

/-- ITS FALSE NEIGHBOUR: 'it returns false'. Refute it at one input. -/
def moonLongitudesWrong : ChangeSpec := { name := "moonLongitudes", fn := fun _ => fun
  | [d1, d2] => { results := [.lit (.bool false)], args := [d1, d2] }
  | _ => none }
def MoonLongitudesWrongFalsely : Prop := moonLongitudesRow.holds Try.pinned (OpenSpec.ofChange moonLongitudesWrong)

/-- 'ephemerislaw2.MoonElongations': WHATEVER THE INPUT: true; the input reads as it did. -/
def moonElongationsSpec : ChangeSpec := { name := "moonElongations", fn := fun _ => fun
  | [d1, d2, d3] => { results := [.lit (.bool true)], args := [d1, d2, d3] }
  | _ => none }
def moonElongationsRow : OpenClaim := { program := "ytcifakgcbgodiaa", sum := "c032f171b9cb8524e706ee27fcfb6842a8c94193a8008b5835009acf63abf514", func := "ephemeris/ephemerislaw2.MoonElongations", spec := "moonElongations", apart := false }
def MoonElongationsSaid : Prop := moonElongationsRow.holds Try.pinned (OpenSpec.ofChange moonElongationsSpec)

/-- ITS FALSE NEIGHBOUR: 'it returns false'. Refute it at one input. -/
def moonElongationsWrong : ChangeSpec := { name := "moonElongations", fn := fun _ => fun
  | [d1, d2, d3] => { results := [.lit (.bool false)], args := [d1, d2, d3] }
  | _ => none }
def MoonElongationsWrongFalsely : Prop := moonElongationsRow.holds Try.pinned (OpenSpec.ofChange moonElongationsWrong)

/-- 'ephemerislaw2.TideHeights': WHATEVER THE INPUT: true; the input reads as it did. -/
def tideHeightsSpec : ChangeSpec := { name := "tideHeights", fn := fun _ => fun
  | [d1, d2] => { results := [.lit (.bool true)], args := [d1, d2] }
  | _ => none }
def tideHeightsRow : OpenClaim := { program := "ytcifakgcbgodiaa", sum := "c032f171b9cb8524e706ee27fcfb6842a8c94193a8008b5835009acf63abf514", func := "ephemeris/ephemerislaw2.TideHeights", spec := "tideHeights", apart := false }
def TideHeightsSaid : Prop := tideHeightsRow.holds Try.pinned (OpenSpec.ofChange tideHeightsSpec)

/-- ITS FALSE NEIGHBOUR: 'it returns false'. Refute it at one input. -/
def tideHeightsWrong : ChangeSpec := { name := "tideHeights", fn := fun _ => fun
  | [d1, d2] => { results := [.lit (.bool false)], args := [d1, d2] }
  | _ => none }
def TideHeightsWrongFalsely : Prop := tideHeightsRow.holds Try.pinned (OpenSpec.ofChange tideHeightsWrong)

/-- 'ephemerislaw2.TideEnds': WHATEVER THE INPUT: true; the input reads as it did. -/
def tideEndsSpec : ChangeSpec := { name := "tideEnds", fn := fun _ => fun
  | [d1, d2, d3] => { results := [.lit (.bool true)], args := [d1, d2, d3] }
  | _ => none }
def tideEndsRow : OpenClaim := { program := "ytcifakgcbgodiaa", sum := "c032f171b9cb8524e706ee27fcfb6842a8c94193a8008b5835009acf63abf514", func := "ephemeris/ephemerislaw2.TideEnds", spec := "tideEnds", apart := false }
def TideEndsSaid : Prop := tideEndsRow.holds Try.pinned (OpenSpec.ofChange tideEndsSpec)

/-- ITS FALSE NEIGHBOUR: 'it returns false'. Refute it at one input. -/
def tideEndsWrong : ChangeSpec := { name := "tideEnds", fn := fun _ => fun
  | [d1, d2, d3] => { results := [.lit (.bool false)], args := [d1, d2, d3] }
  | _ => none }
def TideEndsWrongFalsely : Prop := tideEndsRow.holds Try.pinned (OpenSpec.ofChange tideEndsWrong)

/-- 'ephemeristop.TopPhases': WHATEVER THE INPUT: true; the input reads as it did. -/
def topPhasesSpec : ChangeSpec := { name := "topPhases", fn := fun _ => fun
  | [d1, d2] => { results := [.lit (.bool true)], args := [d1, d2] }
  | _ => none }
def topPhasesRow : OpenClaim := { program := "ytcifakgcbgodiaa", sum := "c032f171b9cb8524e706ee27fcfb6842a8c94193a8008b5835009acf63abf514", func := "ephemeris/ephemeristop.TopPhases", spec := "topPhases", unfollowed := true, recurses := true, apart := false }
def TopPhasesSaid : Prop := topPhasesRow.holds Try.pinned (OpenSpec.ofChange topPhasesSpec)

/-- ITS FALSE NEIGHBOUR: 'it returns false'. Refute it at one input. -/
def topPhasesWrong : ChangeSpec := { name := "topPhases", fn := fun _ => fun
  | [d1, d2] => { results := [.lit (.bool false)], args := [d1, d2] }
  | _ => none }
def TopPhasesWrongFalsely : Prop := topPhasesRow.holds Try.pinned (OpenSpec.ofChange topPhasesWrong)

/-- 'ephemerislaw2.DialLines': WHATEVER THE INPUT: true; the input reads as it did. -/
def dialLinesSpec : ChangeSpec := { name := "dialLines", fn := fun _ => fun
  | [d1, d2] => { results := [.lit (.bool true)], args := [d1, d2] }
  | _ => none }
def dialLinesRow : OpenClaim := { program := "ytcifakgcbgodiaa", sum := "c032f171b9cb8524e706ee27fcfb6842a8c94193a8008b5835009acf63abf514", func := "ephemeris/ephemerislaw2.DialLines", spec := "dialLines", apart := false }
def DialLinesSaid : Prop := dialLinesRow.holds Try.pinned (OpenSpec.ofChange dialLinesSpec)

/-- ITS FALSE NEIGHBOUR: 'it returns false'. Refute it at one input. -/
def dialLinesWrong : ChangeSpec := { name := "dialLines", fn := fun _ => fun
  | [d1, d2] => { results := [.lit (.bool false)], args := [d1, d2] }
  | _ => none }
def DialLinesWrongFalsely : Prop := dialLinesRow.holds Try.pinned (OpenSpec.ofChange dialLinesWrong)

/-- 'ephemerislaw2.PlaceSidereals': WHATEVER THE INPUT: true; the input reads as it did. -/
def placeSiderealsSpec : ChangeSpec := { name := "placeSidereals", fn := fun _ => fun
  | [d1, d2] => { results := [.lit (.bool true)], args := [d1, d2] }
  | _ => none }
def placeSiderealsRow : OpenClaim := { program := "ytcifakgcbgodiaa", sum := "c032f171b9cb8524e706ee27fcfb6842a8c94193a8008b5835009acf63abf514", func := "ephemeris/ephemerislaw2.PlaceSidereals", spec := "placeSidereals", apart := false }
def PlaceSiderealsSaid : Prop := placeSiderealsRow.holds Try.pinned (OpenSpec.ofChange placeSiderealsSpec)

/-- ITS FALSE NEIGHBOUR: 'it returns false'. Refute it at one input. -/
def placeSiderealsWrong : ChangeSpec := { name := "placeSidereals", fn := fun _ => fun
  | [d1, d2] => { results := [.lit (.bool false)], args := [d1, d2] }
  | _ => none }
def PlaceSiderealsWrongFalsely : Prop := placeSiderealsRow.holds Try.pinned (OpenSpec.ofChange placeSiderealsWrong)

/-- 'ephemerislaw2.PlaceErrors': WHATEVER THE INPUT: true; the input reads as it did. -/
def placeErrorsSpec : ChangeSpec := { name := "placeErrors", fn := fun _ => fun
  | [d1, d2, d3, d4] => { results := [.lit (.bool true)], args := [d1, d2, d3, d4] }
  | _ => none }
def placeErrorsRow : OpenClaim := { program := "ytcifakgcbgodiaa", sum := "c032f171b9cb8524e706ee27fcfb6842a8c94193a8008b5835009acf63abf514", func := "ephemeris/ephemerislaw2.PlaceErrors", spec := "placeErrors", apart := false }
def PlaceErrorsSaid : Prop := placeErrorsRow.holds Try.pinned (OpenSpec.ofChange placeErrorsSpec)

/-- ITS FALSE NEIGHBOUR: 'it returns false'. Refute it at one input. -/
def placeErrorsWrong : ChangeSpec := { name := "placeErrors", fn := fun _ => fun
  | [d1, d2, d3, d4] => { results := [.lit (.bool false)], args := [d1, d2, d3, d4] }
  | _ => none }
def PlaceErrorsWrongFalsely : Prop := placeErrorsRow.holds Try.pinned (OpenSpec.ofChange placeErrorsWrong)

/-- 'ephemerislaw2.PhaseFinds': WHATEVER THE INPUT: true; the input reads as it did. -/
def phaseFindsSpec : ChangeSpec := { name := "phaseFinds", fn := fun _ => fun
  | [d1, d2, d3, d4] => { results := [.lit (.bool true)], args := [d1, d2, d3, d4] }
  | _ => none }
def phaseFindsRow : OpenClaim := { program := "ytcifakgcbgodiaa", sum := "c032f171b9cb8524e706ee27fcfb6842a8c94193a8008b5835009acf63abf514", func := "ephemeris/ephemerislaw2.PhaseFinds", spec := "phaseFinds", unfollowed := true, recurses := true, apart := false }
def PhaseFindsSaid : Prop := phaseFindsRow.holds Try.pinned (OpenSpec.ofChange phaseFindsSpec)

/-- ITS FALSE NEIGHBOUR: 'it returns false'. Refute it at one input. -/
def phaseFindsWrong : ChangeSpec := { name := "phaseFinds", fn := fun _ => fun
  | [d1, d2, d3, d4] => { results := [.lit (.bool false)], args := [d1, d2, d3, d4] }
  | _ => none }
def PhaseFindsWrongFalsely : Prop := phaseFindsRow.holds Try.pinned (OpenSpec.ofChange phaseFindsWrong)

/-- 'ephemerislaw2.PhaseNumbers': WHATEVER THE INPUT: true; the input reads as it did. -/
def phaseNumbersSpec : ChangeSpec := { name := "phaseNumbers", fn := fun _ => fun
  | [d] => { results := [.lit (.bool true)], args := [d] }
  | _ => none }
def phaseNumbersRow : OpenClaim := { program := "ytcifakgcbgodiaa", sum := "c032f171b9cb8524e706ee27fcfb6842a8c94193a8008b5835009acf63abf514", func := "ephemeris/ephemerislaw2.PhaseNumbers", spec := "phaseNumbers", unfollowed := true, recurses := true, apart := false }
def PhaseNumbersSaid : Prop := phaseNumbersRow.holds Try.pinned (OpenSpec.ofChange phaseNumbersSpec)

/-- ITS FALSE NEIGHBOUR: 'it returns false'. Refute it at one input. -/
def phaseNumbersWrong : ChangeSpec := { name := "phaseNumbers", fn := fun _ => fun
  | [d] => { results := [.lit (.bool false)], args := [d] }
  | _ => none }
def PhaseNumbersWrongFalsely : Prop := phaseNumbersRow.holds Try.pinned (OpenSpec.ofChange phaseNumbersWrong)

/-- 'ephemerislaw2.PhaseLits': WHATEVER THE INPUT: true; the input reads as it did. -/
def phaseLitsSpec : ChangeSpec := { name := "phaseLits", fn := fun _ => fun
  | [d1, d2, d3] => { results := [.lit (.bool true)], args := [d1, d2, d3] }
  | _ => none }
def phaseLitsRow : OpenClaim := { program := "ytcifakgcbgodiaa", sum := "c032f171b9cb8524e706ee27fcfb6842a8c94193a8008b5835009acf63abf514", func := "ephemeris/ephemerislaw2.PhaseLits", spec := "phaseLits", unfollowed := true, recurses := true, apart := false }
def PhaseLitsSaid : Prop := phaseLitsRow.holds Try.pinned (OpenSpec.ofChange phaseLitsSpec)

/-- ITS FALSE NEIGHBOUR: 'it returns false'. Refute it at one input. -/
def phaseLitsWrong : ChangeSpec := { name := "phaseLits", fn := fun _ => fun
  | [d1, d2, d3] => { results := [.lit (.bool false)], args := [d1, d2, d3] }
  | _ => none }
def PhaseLitsWrongFalsely : Prop := phaseLitsRow.holds Try.pinned (OpenSpec.ofChange phaseLitsWrong)

/- THE SECOND FORM. 'bulk': how many values and letters a reading holds, each counted each time it is reached (what is shared counts as often as it is met; a slice's spare places count too). A statement '..UptoSaid' is the law's where the arguments, and the package variables that the reading takes, are together of bulk at most 1048576: NARROWER than '..Said'. Prove '..Said' where nothing that the law and all that it calls make is longer than what came in: it says more and counts as full. Else prove '..UptoSaid'. A law counts once. -/
mutual
def uptoBulk {H : Type} : DataW H → Nat
  | .lit (.string bytes) => bytes.length + 1
  | .lit _ => 1
  | .nil => 1
  | .ptr d => uptoBulk d + 1
  | .slice elems spare => uptoBulkAll elems + uptoBulkAll spare + 1
  | .agg parts => uptoBulkAll parts + 1
  | .iface _ d => uptoBulk d + 1
  | .map entries => uptoBulkEntries entries + 1
  | .held _ => 1
def uptoBulkAll {H : Type} : List (DataW H) → Nat
  | [] => 0
  | d :: r => uptoBulk d + uptoBulkAll r
def uptoBulkEntries {H : Type} : List (Lit × DataW H) → Nat
  | [] => 0
  | x :: r => uptoBulkEntry x + uptoBulkEntries r
def uptoBulkEntry {H : Type} : Lit × DataW H → Nat
  | (.string bytes, d) => bytes.length + uptoBulk d + 1
  | (_, d) => uptoBulk d + 1
 end
def uptoSmall : (H : Type) → List (DataW H) → Bool := fun _ ds => decide (uptoBulkAll ds ≤ 1048576)
def OpenSpec.upto (s : _root_.Go.ChangeSpec) : _root_.Go.OpenSpec := { _root_.Go.OpenSpec.ofChange s with cond := some uptoSmall }

/-- 'ephemerislaw2.MoonLongitudes', WHERE WHAT IT READS IS OF BULK AT MOST 1048576: true; the input reads as it did. -/
def moonLongitudesUptoRow : OpenClaim := { program := "ytcifakgcbgodiaa", sum := "c032f171b9cb8524e706ee27fcfb6842a8c94193a8008b5835009acf63abf514", func := "ephemeris/ephemerislaw2.MoonLongitudes", spec := "moonLongitudes", apart := false, narrowed := true }
def MoonLongitudesUptoSaid : Prop := moonLongitudesUptoRow.holds Try.pinned (OpenSpec.upto moonLongitudesSpec)

/-- 'ephemerislaw2.MoonElongations', WHERE WHAT IT READS IS OF BULK AT MOST 1048576: true; the input reads as it did. -/
def moonElongationsUptoRow : OpenClaim := { program := "ytcifakgcbgodiaa", sum := "c032f171b9cb8524e706ee27fcfb6842a8c94193a8008b5835009acf63abf514", func := "ephemeris/ephemerislaw2.MoonElongations", spec := "moonElongations", apart := false, narrowed := true }
def MoonElongationsUptoSaid : Prop := moonElongationsUptoRow.holds Try.pinned (OpenSpec.upto moonElongationsSpec)

/-- 'ephemerislaw2.TideHeights', WHERE WHAT IT READS IS OF BULK AT MOST 1048576: true; the input reads as it did. -/
def tideHeightsUptoRow : OpenClaim := { program := "ytcifakgcbgodiaa", sum := "c032f171b9cb8524e706ee27fcfb6842a8c94193a8008b5835009acf63abf514", func := "ephemeris/ephemerislaw2.TideHeights", spec := "tideHeights", apart := false, narrowed := true }
def TideHeightsUptoSaid : Prop := tideHeightsUptoRow.holds Try.pinned (OpenSpec.upto tideHeightsSpec)

/-- 'ephemerislaw2.TideEnds', WHERE WHAT IT READS IS OF BULK AT MOST 1048576: true; the input reads as it did. -/
def tideEndsUptoRow : OpenClaim := { program := "ytcifakgcbgodiaa", sum := "c032f171b9cb8524e706ee27fcfb6842a8c94193a8008b5835009acf63abf514", func := "ephemeris/ephemerislaw2.TideEnds", spec := "tideEnds", apart := false, narrowed := true }
def TideEndsUptoSaid : Prop := tideEndsUptoRow.holds Try.pinned (OpenSpec.upto tideEndsSpec)

/-- 'ephemeristop.TopPhases', WHERE WHAT IT READS IS OF BULK AT MOST 1048576: true; the input reads as it did. -/
def topPhasesUptoRow : OpenClaim := { program := "ytcifakgcbgodiaa", sum := "c032f171b9cb8524e706ee27fcfb6842a8c94193a8008b5835009acf63abf514", func := "ephemeris/ephemeristop.TopPhases", spec := "topPhases", unfollowed := true, recurses := true, apart := false, narrowed := true }
def TopPhasesUptoSaid : Prop := topPhasesUptoRow.holds Try.pinned (OpenSpec.upto topPhasesSpec)

/-- 'ephemerislaw2.DialLines', WHERE WHAT IT READS IS OF BULK AT MOST 1048576: true; the input reads as it did. -/
def dialLinesUptoRow : OpenClaim := { program := "ytcifakgcbgodiaa", sum := "c032f171b9cb8524e706ee27fcfb6842a8c94193a8008b5835009acf63abf514", func := "ephemeris/ephemerislaw2.DialLines", spec := "dialLines", apart := false, narrowed := true }
def DialLinesUptoSaid : Prop := dialLinesUptoRow.holds Try.pinned (OpenSpec.upto dialLinesSpec)

/-- 'ephemerislaw2.PlaceSidereals', WHERE WHAT IT READS IS OF BULK AT MOST 1048576: true; the input reads as it did. -/
def placeSiderealsUptoRow : OpenClaim := { program := "ytcifakgcbgodiaa", sum := "c032f171b9cb8524e706ee27fcfb6842a8c94193a8008b5835009acf63abf514", func := "ephemeris/ephemerislaw2.PlaceSidereals", spec := "placeSidereals", apart := false, narrowed := true }
def PlaceSiderealsUptoSaid : Prop := placeSiderealsUptoRow.holds Try.pinned (OpenSpec.upto placeSiderealsSpec)

/-- 'ephemerislaw2.PlaceErrors', WHERE WHAT IT READS IS OF BULK AT MOST 1048576: true; the input reads as it did. -/
def placeErrorsUptoRow : OpenClaim := { program := "ytcifakgcbgodiaa", sum := "c032f171b9cb8524e706ee27fcfb6842a8c94193a8008b5835009acf63abf514", func := "ephemeris/ephemerislaw2.PlaceErrors", spec := "placeErrors", apart := false, narrowed := true }
def PlaceErrorsUptoSaid : Prop := placeErrorsUptoRow.holds Try.pinned (OpenSpec.upto placeErrorsSpec)

/-- 'ephemerislaw2.PhaseFinds', WHERE WHAT IT READS IS OF BULK AT MOST 1048576: true; the input reads as it did. -/
def phaseFindsUptoRow : OpenClaim := { program := "ytcifakgcbgodiaa", sum := "c032f171b9cb8524e706ee27fcfb6842a8c94193a8008b5835009acf63abf514", func := "ephemeris/ephemerislaw2.PhaseFinds", spec := "phaseFinds", unfollowed := true, recurses := true, apart := false, narrowed := true }
def PhaseFindsUptoSaid : Prop := phaseFindsUptoRow.holds Try.pinned (OpenSpec.upto phaseFindsSpec)

/-- 'ephemerislaw2.PhaseNumbers', WHERE WHAT IT READS IS OF BULK AT MOST 1048576: true; the input reads as it did. -/
def phaseNumbersUptoRow : OpenClaim := { program := "ytcifakgcbgodiaa", sum := "c032f171b9cb8524e706ee27fcfb6842a8c94193a8008b5835009acf63abf514", func := "ephemeris/ephemerislaw2.PhaseNumbers", spec := "phaseNumbers", unfollowed := true, recurses := true, apart := false, narrowed := true }
def PhaseNumbersUptoSaid : Prop := phaseNumbersUptoRow.holds Try.pinned (OpenSpec.upto phaseNumbersSpec)

/-- 'ephemerislaw2.PhaseLits', WHERE WHAT IT READS IS OF BULK AT MOST 1048576: true; the input reads as it did. -/
def phaseLitsUptoRow : OpenClaim := { program := "ytcifakgcbgodiaa", sum := "c032f171b9cb8524e706ee27fcfb6842a8c94193a8008b5835009acf63abf514", func := "ephemeris/ephemerislaw2.PhaseLits", spec := "phaseLits", unfollowed := true, recurses := true, apart := false, narrowed := true }
def PhaseLitsUptoSaid : Prop := phaseLitsUptoRow.holds Try.pinned (OpenSpec.upto phaseLitsSpec)

end Rows
end Go.Proofs.Ytcifakgcbgodiaa
