/-
  No cell of these rows narrows 'for every input' (looked for: loops, veiled, ifaces, maps, wideKeys, modest, calm, conditions, laid).
  DERIVED. THE GIVEN ROWS OF THIS SEAT. 12 by the template 'for every input the law returns true; each argument reads behind the call as it read before'; 0 by the template 'total and deterministic' (their statements: YtflnkfppkcjegaaTotals.lean).
  GIVEN WITH THE SEED: the statements are not yours to turn. If you find one false, say at which input.
  Laid BY PROGRAM, IN A SANDBOX (cutbox-rows.mjs): the forced cells as the released guide's own fill.sh prints them over the translation 64d3082acdf5e35c… (all of the seat's roots in one cut). By AI agents, Wed Nov 11 2026. No macro, syntax, notation, axiom, sorry.
-/
import Derived.Test.YtflnkfppkcjegaaChecked
import GoSem.Claim
import GoSem.ClaimJoined
import GoSem.ClaimMapViews
import Derived.JoinedTies
import Derived.KernelRfl
namespace Go.Proofs.Ytflnkfppkcjegaa
/- THE CELL 'sum', in the pinned program and in every row, IS THE sha256 OF THE DUMP (.gsa) THAT YtflnkfppkcjegaaProg.lean LOADS. Nothing in Lean hashes anything: it is a label: what it is worth is what the hold of that sum in a sandbox is worth. -/
noncomputable def Try.pinned : Pinned := { name := "ytflnkfppkcjegaa", sum := "64d3082acdf5e35c899175e22a5779d1baa5dfb33e032d1fea7b4022faed51f4", checked := Try.checked }
namespace Rows
def none {H : Type} : Left H := { results := [], args := [] }

/-- 'ephemerislaw2.GaugeFits': WHATEVER THE INPUT: true; the input reads as it did. -/
def gaugeFitsSpec : ChangeSpec := { name := "gaugeFits", fn := fun _ => fun
  | [d1, d2] => { results := [.lit (.bool true)], args := [d1, d2] }
  | _ => none }
def gaugeFitsRow : OpenClaim := { program := "ytflnkfppkcjegaa", sum := "64d3082acdf5e35c899175e22a5779d1baa5dfb33e032d1fea7b4022faed51f4", func := "ephemeris/ephemerislaw2.GaugeFits", spec := "gaugeFits", unfollowed := true, recurses := true, apart := false }
def GaugeFitsSaid : Prop := gaugeFitsRow.holds Try.pinned (OpenSpec.ofChange gaugeFitsSpec)

/-- ITS FALSE NEIGHBOUR: 'it returns false'. Refute it at one input. -/
def gaugeFitsWrong : ChangeSpec := { name := "gaugeFits", fn := fun _ => fun
  | [d1, d2] => { results := [.lit (.bool false)], args := [d1, d2] }
  | _ => none }
def GaugeFitsWrongFalsely : Prop := gaugeFitsRow.holds Try.pinned (OpenSpec.ofChange gaugeFitsWrong)

/-- 'ephemerislaw2.IntervalChecks': WHATEVER THE INPUT: true; the input reads as it did. -/
def intervalChecksSpec : ChangeSpec := { name := "intervalChecks", fn := fun _ => fun
  | [d] => { results := [.lit (.bool true)], args := [d] }
  | _ => none }
def intervalChecksRow : OpenClaim := { program := "ytflnkfppkcjegaa", sum := "64d3082acdf5e35c899175e22a5779d1baa5dfb33e032d1fea7b4022faed51f4", func := "ephemeris/ephemerislaw2.IntervalChecks", spec := "intervalChecks", apart := false }
def IntervalChecksSaid : Prop := intervalChecksRow.holds Try.pinned (OpenSpec.ofChange intervalChecksSpec)

/-- ITS FALSE NEIGHBOUR: 'it returns false'. Refute it at one input. -/
def intervalChecksWrong : ChangeSpec := { name := "intervalChecks", fn := fun _ => fun
  | [d] => { results := [.lit (.bool false)], args := [d] }
  | _ => none }
def IntervalChecksWrongFalsely : Prop := intervalChecksRow.holds Try.pinned (OpenSpec.ofChange intervalChecksWrong)

/-- 'ephemerislaw2.IntervalMuls': WHATEVER THE INPUT: true; the input reads as it did. -/
def intervalMulsSpec : ChangeSpec := { name := "intervalMuls", fn := fun _ => fun
  | [d1, d2] => { results := [.lit (.bool true)], args := [d1, d2] }
  | _ => none }
def intervalMulsRow : OpenClaim := { program := "ytflnkfppkcjegaa", sum := "64d3082acdf5e35c899175e22a5779d1baa5dfb33e032d1fea7b4022faed51f4", func := "ephemeris/ephemerislaw2.IntervalMuls", spec := "intervalMuls", apart := false }
def IntervalMulsSaid : Prop := intervalMulsRow.holds Try.pinned (OpenSpec.ofChange intervalMulsSpec)

/-- ITS FALSE NEIGHBOUR: 'it returns false'. Refute it at one input. -/
def intervalMulsWrong : ChangeSpec := { name := "intervalMuls", fn := fun _ => fun
  | [d1, d2] => { results := [.lit (.bool false)], args := [d1, d2] }
  | _ => none }
def IntervalMulsWrongFalsely : Prop := intervalMulsRow.holds Try.pinned (OpenSpec.ofChange intervalMulsWrong)

/-- 'ephemerislaw2.IntervalDivs': WHATEVER THE INPUT: true; the input reads as it did. -/
def intervalDivsSpec : ChangeSpec := { name := "intervalDivs", fn := fun _ => fun
  | [d1, d2] => { results := [.lit (.bool true)], args := [d1, d2] }
  | _ => none }
def intervalDivsRow : OpenClaim := { program := "ytflnkfppkcjegaa", sum := "64d3082acdf5e35c899175e22a5779d1baa5dfb33e032d1fea7b4022faed51f4", func := "ephemeris/ephemerislaw2.IntervalDivs", spec := "intervalDivs", apart := false }
def IntervalDivsSaid : Prop := intervalDivsRow.holds Try.pinned (OpenSpec.ofChange intervalDivsSpec)

/-- ITS FALSE NEIGHBOUR: 'it returns false'. Refute it at one input. -/
def intervalDivsWrong : ChangeSpec := { name := "intervalDivs", fn := fun _ => fun
  | [d1, d2] => { results := [.lit (.bool false)], args := [d1, d2] }
  | _ => none }
def IntervalDivsWrongFalsely : Prop := intervalDivsRow.holds Try.pinned (OpenSpec.ofChange intervalDivsWrong)

/-- 'ephemerislaw2.IntervalScales': WHATEVER THE INPUT: true; the input reads as it did. -/
def intervalScalesSpec : ChangeSpec := { name := "intervalScales", fn := fun _ => fun
  | [d1, d2, d3] => { results := [.lit (.bool true)], args := [d1, d2, d3] }
  | _ => none }
def intervalScalesRow : OpenClaim := { program := "ytflnkfppkcjegaa", sum := "64d3082acdf5e35c899175e22a5779d1baa5dfb33e032d1fea7b4022faed51f4", func := "ephemeris/ephemerislaw2.IntervalScales", spec := "intervalScales", apart := false }
def IntervalScalesSaid : Prop := intervalScalesRow.holds Try.pinned (OpenSpec.ofChange intervalScalesSpec)

/-- ITS FALSE NEIGHBOUR: 'it returns false'. Refute it at one input. -/
def intervalScalesWrong : ChangeSpec := { name := "intervalScales", fn := fun _ => fun
  | [d1, d2, d3] => { results := [.lit (.bool false)], args := [d1, d2, d3] }
  | _ => none }
def IntervalScalesWrongFalsely : Prop := intervalScalesRow.holds Try.pinned (OpenSpec.ofChange intervalScalesWrong)

/-- 'ephemerislaw2.IntervalSigns': WHATEVER THE INPUT: true; the input reads as it did. -/
def intervalSignsSpec : ChangeSpec := { name := "intervalSigns", fn := fun _ => fun
  | [d] => { results := [.lit (.bool true)], args := [d] }
  | _ => none }
def intervalSignsRow : OpenClaim := { program := "ytflnkfppkcjegaa", sum := "64d3082acdf5e35c899175e22a5779d1baa5dfb33e032d1fea7b4022faed51f4", func := "ephemeris/ephemerislaw2.IntervalSigns", spec := "intervalSigns", apart := false }
def IntervalSignsSaid : Prop := intervalSignsRow.holds Try.pinned (OpenSpec.ofChange intervalSignsSpec)

/-- ITS FALSE NEIGHBOUR: 'it returns false'. Refute it at one input. -/
def intervalSignsWrong : ChangeSpec := { name := "intervalSigns", fn := fun _ => fun
  | [d] => { results := [.lit (.bool false)], args := [d] }
  | _ => none }
def IntervalSignsWrongFalsely : Prop := intervalSignsRow.holds Try.pinned (OpenSpec.ofChange intervalSignsWrong)

/-- 'ephemerislaw2.ContradictLeasts': WHATEVER THE INPUT: true; the input reads as it did. -/
def contradictLeastsSpec : ChangeSpec := { name := "contradictLeasts", fn := fun _ => fun
  | [d1, d2] => { results := [.lit (.bool true)], args := [d1, d2] }
  | _ => none }
def contradictLeastsRow : OpenClaim := { program := "ytflnkfppkcjegaa", sum := "64d3082acdf5e35c899175e22a5779d1baa5dfb33e032d1fea7b4022faed51f4", func := "ephemeris/ephemerislaw2.ContradictLeasts", spec := "contradictLeasts", apart := false }
def ContradictLeastsSaid : Prop := contradictLeastsRow.holds Try.pinned (OpenSpec.ofChange contradictLeastsSpec)

/-- ITS FALSE NEIGHBOUR: 'it returns false'. Refute it at one input. -/
def contradictLeastsWrong : ChangeSpec := { name := "contradictLeasts", fn := fun _ => fun
  | [d1, d2] => { results := [.lit (.bool false)], args := [d1, d2] }
  | _ => none }
def ContradictLeastsWrongFalsely : Prop := contradictLeastsRow.holds Try.pinned (OpenSpec.ofChange contradictLeastsWrong)

/-- 'ephemerislaw2.ContradictImplieds': WHATEVER THE INPUT: true; the input reads as it did. -/
def contradictImpliedsSpec : ChangeSpec := { name := "contradictImplieds", fn := fun _ => fun
  | [d1, d2, d3] => { results := [.lit (.bool true)], args := [d1, d2, d3] }
  | _ => none }
def contradictImpliedsRow : OpenClaim := { program := "ytflnkfppkcjegaa", sum := "64d3082acdf5e35c899175e22a5779d1baa5dfb33e032d1fea7b4022faed51f4", func := "ephemeris/ephemerislaw2.ContradictImplieds", spec := "contradictImplieds", apart := false }
def ContradictImpliedsSaid : Prop := contradictImpliedsRow.holds Try.pinned (OpenSpec.ofChange contradictImpliedsSpec)

/-- ITS FALSE NEIGHBOUR: 'it returns false'. Refute it at one input. -/
def contradictImpliedsWrong : ChangeSpec := { name := "contradictImplieds", fn := fun _ => fun
  | [d1, d2, d3] => { results := [.lit (.bool false)], args := [d1, d2, d3] }
  | _ => none }
def ContradictImpliedsWrongFalsely : Prop := contradictImpliedsRow.holds Try.pinned (OpenSpec.ofChange contradictImpliedsWrong)

/-- 'ephemerislaw2.IntervalAdds': WHATEVER THE INPUT: true; the input reads as it did. -/
def intervalAddsSpec : ChangeSpec := { name := "intervalAdds", fn := fun _ => fun
  | [d1, d2] => { results := [.lit (.bool true)], args := [d1, d2] }
  | _ => none }
def intervalAddsRow : OpenClaim := { program := "ytflnkfppkcjegaa", sum := "64d3082acdf5e35c899175e22a5779d1baa5dfb33e032d1fea7b4022faed51f4", func := "ephemeris/ephemerislaw2.IntervalAdds", spec := "intervalAdds", apart := false }
def IntervalAddsSaid : Prop := intervalAddsRow.holds Try.pinned (OpenSpec.ofChange intervalAddsSpec)

/-- ITS FALSE NEIGHBOUR: 'it returns false'. Refute it at one input. -/
def intervalAddsWrong : ChangeSpec := { name := "intervalAdds", fn := fun _ => fun
  | [d1, d2] => { results := [.lit (.bool false)], args := [d1, d2] }
  | _ => none }
def IntervalAddsWrongFalsely : Prop := intervalAddsRow.holds Try.pinned (OpenSpec.ofChange intervalAddsWrong)

/-- 'ephemerislaw2.IntervalMeets': WHATEVER THE INPUT: true; the input reads as it did. -/
def intervalMeetsSpec : ChangeSpec := { name := "intervalMeets", fn := fun _ => fun
  | [d1, d2] => { results := [.lit (.bool true)], args := [d1, d2] }
  | _ => none }
def intervalMeetsRow : OpenClaim := { program := "ytflnkfppkcjegaa", sum := "64d3082acdf5e35c899175e22a5779d1baa5dfb33e032d1fea7b4022faed51f4", func := "ephemeris/ephemerislaw2.IntervalMeets", spec := "intervalMeets", apart := false }
def IntervalMeetsSaid : Prop := intervalMeetsRow.holds Try.pinned (OpenSpec.ofChange intervalMeetsSpec)

/-- ITS FALSE NEIGHBOUR: 'it returns false'. Refute it at one input. -/
def intervalMeetsWrong : ChangeSpec := { name := "intervalMeets", fn := fun _ => fun
  | [d1, d2] => { results := [.lit (.bool false)], args := [d1, d2] }
  | _ => none }
def IntervalMeetsWrongFalsely : Prop := intervalMeetsRow.holds Try.pinned (OpenSpec.ofChange intervalMeetsWrong)

/-- 'ephemeristop.TopContradict': WHATEVER THE INPUT: true; the input reads as it did. -/
def topContradictSpec : ChangeSpec := { name := "topContradict", fn := fun _ => fun
  | [d1, d2, d3, d4] => { results := [.lit (.bool true)], args := [d1, d2, d3, d4] }
  | _ => none }
def topContradictRow : OpenClaim := { program := "ytflnkfppkcjegaa", sum := "64d3082acdf5e35c899175e22a5779d1baa5dfb33e032d1fea7b4022faed51f4", func := "ephemeris/ephemeristop.TopContradict", spec := "topContradict", apart := false }
def TopContradictSaid : Prop := topContradictRow.holds Try.pinned (OpenSpec.ofChange topContradictSpec)

/-- ITS FALSE NEIGHBOUR: 'it returns false'. Refute it at one input. -/
def topContradictWrong : ChangeSpec := { name := "topContradict", fn := fun _ => fun
  | [d1, d2, d3, d4] => { results := [.lit (.bool false)], args := [d1, d2, d3, d4] }
  | _ => none }
def TopContradictWrongFalsely : Prop := topContradictRow.holds Try.pinned (OpenSpec.ofChange topContradictWrong)

/-- 'ephemerislaw2.ContradictChangeds': WHATEVER THE INPUT: true; the input reads as it did. -/
def contradictChangedsSpec : ChangeSpec := { name := "contradictChangeds", fn := fun _ => fun
  | [d1, d2, d3] => { results := [.lit (.bool true)], args := [d1, d2, d3] }
  | _ => none }
def contradictChangedsRow : OpenClaim := { program := "ytflnkfppkcjegaa", sum := "64d3082acdf5e35c899175e22a5779d1baa5dfb33e032d1fea7b4022faed51f4", func := "ephemeris/ephemerislaw2.ContradictChangeds", spec := "contradictChangeds", apart := false }
def ContradictChangedsSaid : Prop := contradictChangedsRow.holds Try.pinned (OpenSpec.ofChange contradictChangedsSpec)

/-- ITS FALSE NEIGHBOUR: 'it returns false'. Refute it at one input. -/
def contradictChangedsWrong : ChangeSpec := { name := "contradictChangeds", fn := fun _ => fun
  | [d1, d2, d3] => { results := [.lit (.bool false)], args := [d1, d2, d3] }
  | _ => none }
def ContradictChangedsWrongFalsely : Prop := contradictChangedsRow.holds Try.pinned (OpenSpec.ofChange contradictChangedsWrong)

/- THE SECOND FORM. 'bulk': how many values and letters a reading holds, each counted each time it is reached (what is shared counts as often as it is met; a slice's spare places count too). A statement '..UptoSaid' is the law's where the arguments, and the package variables that the reading takes, are together of bulk at most 1048576: NARROWER than '..Said'. Prove '..Said' where nothing that the law and all that it calls make is longer than what came in: it says more and counts as full. Else prove '..UptoSaid'. A law counts once. -/
mutual
def uptoBulk {H : Type} : DataW H → Nat
  | .lit (.string bytes) => bytes.length + 1
  | .lit _ => 1
  | .nil => 1
  | .ptr d => uptoBulk d + 1
  | .slice elems spare => uptoBulkAll elems + uptoBulkAll spare + 1
  | .agg parts => uptoBulkAll parts + 1
  | .iface _ d => uptoBulk d + 1
  | .map entries => uptoBulkEntries entries + 1
  | .held _ => 1
def uptoBulkAll {H : Type} : List (DataW H) → Nat
  | [] => 0
  | d :: r => uptoBulk d + uptoBulkAll r
def uptoBulkEntries {H : Type} : List (Lit × DataW H) → Nat
  | [] => 0
  | x :: r => uptoBulkEntry x + uptoBulkEntries r
def uptoBulkEntry {H : Type} : Lit × DataW H → Nat
  | (.string bytes, d) => bytes.length + uptoBulk d + 1
  | (_, d) => uptoBulk d + 1
 end
def uptoSmall : (H : Type) → List (DataW H) → Bool := fun _ ds => decide (uptoBulkAll ds ≤ 1048576)
def OpenSpec.upto (s : _root_.Go.ChangeSpec) : _root_.Go.OpenSpec := { _root_.Go.OpenSpec.ofChange s with cond := some uptoSmall }

/-- 'ephemerislaw2.GaugeFits', WHERE WHAT IT READS IS OF BULK AT MOST 1048576: true; the input reads as it did. -/
def gaugeFitsUptoRow : OpenClaim := { program := "ytflnkfppkcjegaa", sum := "64d3082acdf5e35c899175e22a5779d1baa5dfb33e032d1fea7b4022faed51f4", func := "ephemeris/ephemerislaw2.GaugeFits", spec := "gaugeFits", unfollowed := true, recurses := true, apart := false, narrowed := true }
def GaugeFitsUptoSaid : Prop := gaugeFitsUptoRow.holds Try.pinned (OpenSpec.upto gaugeFitsSpec)

/-- 'ephemerislaw2.IntervalChecks', WHERE WHAT IT READS IS OF BULK AT MOST 1048576: true; the input reads as it did. -/
def intervalChecksUptoRow : OpenClaim := { program := "ytflnkfppkcjegaa", sum := "64d3082acdf5e35c899175e22a5779d1baa5dfb33e032d1fea7b4022faed51f4", func := "ephemeris/ephemerislaw2.IntervalChecks", spec := "intervalChecks", apart := false, narrowed := true }
def IntervalChecksUptoSaid : Prop := intervalChecksUptoRow.holds Try.pinned (OpenSpec.upto intervalChecksSpec)

/-- 'ephemerislaw2.IntervalMuls', WHERE WHAT IT READS IS OF BULK AT MOST 1048576: true; the input reads as it did. -/
def intervalMulsUptoRow : OpenClaim := { program := "ytflnkfppkcjegaa", sum := "64d3082acdf5e35c899175e22a5779d1baa5dfb33e032d1fea7b4022faed51f4", func := "ephemeris/ephemerislaw2.IntervalMuls", spec := "intervalMuls", apart := false, narrowed := true }
def IntervalMulsUptoSaid : Prop := intervalMulsUptoRow.holds Try.pinned (OpenSpec.upto intervalMulsSpec)

/-- 'ephemerislaw2.IntervalDivs', WHERE WHAT IT READS IS OF BULK AT MOST 1048576: true; the input reads as it did. -/
def intervalDivsUptoRow : OpenClaim := { program := "ytflnkfppkcjegaa", sum := "64d3082acdf5e35c899175e22a5779d1baa5dfb33e032d1fea7b4022faed51f4", func := "ephemeris/ephemerislaw2.IntervalDivs", spec := "intervalDivs", apart := false, narrowed := true }
def IntervalDivsUptoSaid : Prop := intervalDivsUptoRow.holds Try.pinned (OpenSpec.upto intervalDivsSpec)

/-- 'ephemerislaw2.IntervalScales', WHERE WHAT IT READS IS OF BULK AT MOST 1048576: true; the input reads as it did. -/
def intervalScalesUptoRow : OpenClaim := { program := "ytflnkfppkcjegaa", sum := "64d3082acdf5e35c899175e22a5779d1baa5dfb33e032d1fea7b4022faed51f4", func := "ephemeris/ephemerislaw2.IntervalScales", spec := "intervalScales", apart := false, narrowed := true }
def IntervalScalesUptoSaid : Prop := intervalScalesUptoRow.holds Try.pinned (OpenSpec.upto intervalScalesSpec)

/-- 'ephemerislaw2.IntervalSigns', WHERE WHAT IT READS IS OF BULK AT MOST 1048576: true; the input reads as it did. -/
def intervalSignsUptoRow : OpenClaim := { program := "ytflnkfppkcjegaa", sum := "64d3082acdf5e35c899175e22a5779d1baa5dfb33e032d1fea7b4022faed51f4", func := "ephemeris/ephemerislaw2.IntervalSigns", spec := "intervalSigns", apart := false, narrowed := true }
def IntervalSignsUptoSaid : Prop := intervalSignsUptoRow.holds Try.pinned (OpenSpec.upto intervalSignsSpec)

/-- 'ephemerislaw2.ContradictLeasts', WHERE WHAT IT READS IS OF BULK AT MOST 1048576: true; the input reads as it did. -/
def contradictLeastsUptoRow : OpenClaim := { program := "ytflnkfppkcjegaa", sum := "64d3082acdf5e35c899175e22a5779d1baa5dfb33e032d1fea7b4022faed51f4", func := "ephemeris/ephemerislaw2.ContradictLeasts", spec := "contradictLeasts", apart := false, narrowed := true }
def ContradictLeastsUptoSaid : Prop := contradictLeastsUptoRow.holds Try.pinned (OpenSpec.upto contradictLeastsSpec)

/-- 'ephemerislaw2.ContradictImplieds', WHERE WHAT IT READS IS OF BULK AT MOST 1048576: true; the input reads as it did. -/
def contradictImpliedsUptoRow : OpenClaim := { program := "ytflnkfppkcjegaa", sum := "64d3082acdf5e35c899175e22a5779d1baa5dfb33e032d1fea7b4022faed51f4", func := "ephemeris/ephemerislaw2.ContradictImplieds", spec := "contradictImplieds", apart := false, narrowed := true }
def ContradictImpliedsUptoSaid : Prop := contradictImpliedsUptoRow.holds Try.pinned (OpenSpec.upto contradictImpliedsSpec)

/-- 'ephemerislaw2.IntervalAdds', WHERE WHAT IT READS IS OF BULK AT MOST 1048576: true; the input reads as it did. -/
def intervalAddsUptoRow : OpenClaim := { program := "ytflnkfppkcjegaa", sum := "64d3082acdf5e35c899175e22a5779d1baa5dfb33e032d1fea7b4022faed51f4", func := "ephemeris/ephemerislaw2.IntervalAdds", spec := "intervalAdds", apart := false, narrowed := true }
def IntervalAddsUptoSaid : Prop := intervalAddsUptoRow.holds Try.pinned (OpenSpec.upto intervalAddsSpec)

/-- 'ephemerislaw2.IntervalMeets', WHERE WHAT IT READS IS OF BULK AT MOST 1048576: true; the input reads as it did. -/
def intervalMeetsUptoRow : OpenClaim := { program := "ytflnkfppkcjegaa", sum := "64d3082acdf5e35c899175e22a5779d1baa5dfb33e032d1fea7b4022faed51f4", func := "ephemeris/ephemerislaw2.IntervalMeets", spec := "intervalMeets", apart := false, narrowed := true }
def IntervalMeetsUptoSaid : Prop := intervalMeetsUptoRow.holds Try.pinned (OpenSpec.upto intervalMeetsSpec)

/-- 'ephemeristop.TopContradict', WHERE WHAT IT READS IS OF BULK AT MOST 1048576: true; the input reads as it did. -/
def topContradictUptoRow : OpenClaim := { program := "ytflnkfppkcjegaa", sum := "64d3082acdf5e35c899175e22a5779d1baa5dfb33e032d1fea7b4022faed51f4", func := "ephemeris/ephemeristop.TopContradict", spec := "topContradict", apart := false, narrowed := true }
def TopContradictUptoSaid : Prop := topContradictUptoRow.holds Try.pinned (OpenSpec.upto topContradictSpec)

/-- 'ephemerislaw2.ContradictChangeds', WHERE WHAT IT READS IS OF BULK AT MOST 1048576: true; the input reads as it did. -/
def contradictChangedsUptoRow : OpenClaim := { program := "ytflnkfppkcjegaa", sum := "64d3082acdf5e35c899175e22a5779d1baa5dfb33e032d1fea7b4022faed51f4", func := "ephemeris/ephemerislaw2.ContradictChangeds", spec := "contradictChangeds", apart := false, narrowed := true }
def ContradictChangedsUptoSaid : Prop := contradictChangedsUptoRow.holds Try.pinned (OpenSpec.upto contradictChangedsSpec)

end Rows
end Go.Proofs.Ytflnkfppkcjegaa
