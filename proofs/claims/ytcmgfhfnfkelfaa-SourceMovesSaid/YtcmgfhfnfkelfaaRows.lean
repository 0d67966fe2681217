/-
  No cell of these rows narrows 'for every input' (looked for: loops, veiled, ifaces, maps, wideKeys, modest, calm, conditions, laid).
  DERIVED. THE GIVEN ROWS OF THIS SEAT. 13 by the template 'for every input the law returns true; each argument reads behind the call as it read before'; 0 by the template 'total and deterministic' (their statements: YtcmgfhfnfkelfaaTotals.lean).
  GIVEN WITH THE SEED: the statements are not yours to turn. If you find one false, say at which input.
  Laid BY PROGRAM, IN A SANDBOX (cutbox-rows.mjs): the forced cells as the released guide's own fill.sh prints them over the translation b9614f44ab0dd204… (all of the seat's roots in one cut). By AI agents, Wed Nov 11 2026. No macro, syntax, notation, axiom, sorry.
-/
import Derived.Test.YtcmgfhfnfkelfaaChecked
import GoSem.Claim
import GoSem.ClaimJoined
import GoSem.ClaimMapViews
import Derived.JoinedTies
import Derived.KernelRfl
namespace Go.Proofs.Ytcmgfhfnfkelfaa
/- THE CELL 'sum', in the pinned program and in every row, IS THE sha256 OF THE DUMP (.gsa) THAT YtcmgfhfnfkelfaaProg.lean LOADS. Nothing in Lean hashes anything: it is a label: what it is worth is what the hold of that sum in a sandbox is worth. -/
noncomputable def Try.pinned : Pinned := { name := "ytcmgfhfnfkelfaa", sum := "b9614f44ab0dd20462f1e5553893993194319d1a646c5c0403169c959533bfb0", checked := Try.checked }
namespace Rows
def none {H : Type} : Left H := { results := [], args := [] }

/-- 'ephemerislaw2.SmearSmears': WHATEVER THE INPUT: true; the input reads as it did. -/
def smearSmearsSpec : ChangeSpec := { name := "smearSmears", fn := fun _ => fun
  | [d1, d2, d3] => { results := [.lit (.bool true)], args := [d1, d2, d3] }
  | _ => none }
def smearSmearsRow : OpenClaim := { program := "ytcmgfhfnfkelfaa", sum := "b9614f44ab0dd20462f1e5553893993194319d1a646c5c0403169c959533bfb0", func := "ephemeris/ephemerislaw2.SmearSmears", spec := "smearSmears", apart := false }
def SmearSmearsSaid : Prop := smearSmearsRow.holds Try.pinned (OpenSpec.ofChange smearSmearsSpec)

/-- ITS FALSE NEIGHBOUR: 'it returns false'. Refute it at one input. -/
def smearSmearsWrong : ChangeSpec := { name := "smearSmears", fn := fun _ => fun
  | [d1, d2, d3] => { results := [.lit (.bool false)], args := [d1, d2, d3] }
  | _ => none }
def SmearSmearsWrongFalsely : Prop := smearSmearsRow.holds Try.pinned (OpenSpec.ofChange smearSmearsWrong)

/-- 'ephemerislaw2.LinkOffsets': WHATEVER THE INPUT: true; the input reads as it did. -/
def linkOffsetsSpec : ChangeSpec := { name := "linkOffsets", fn := fun _ => fun
  | [d] => { results := [.lit (.bool true)], args := [d] }
  | _ => none }
def linkOffsetsRow : OpenClaim := { program := "ytcmgfhfnfkelfaa", sum := "b9614f44ab0dd20462f1e5553893993194319d1a646c5c0403169c959533bfb0", func := "ephemeris/ephemerislaw2.LinkOffsets", spec := "linkOffsets", apart := false }
def LinkOffsetsSaid : Prop := linkOffsetsRow.holds Try.pinned (OpenSpec.ofChange linkOffsetsSpec)

/-- ITS FALSE NEIGHBOUR: 'it returns false'. Refute it at one input. -/
def linkOffsetsWrong : ChangeSpec := { name := "linkOffsets", fn := fun _ => fun
  | [d] => { results := [.lit (.bool false)], args := [d] }
  | _ => none }
def LinkOffsetsWrongFalsely : Prop := linkOffsetsRow.holds Try.pinned (OpenSpec.ofChange linkOffsetsWrong)

/-- 'ephemerislaw2.OscillElapseds': WHATEVER THE INPUT: true; the input reads as it did. -/
def oscillElapsedsSpec : ChangeSpec := { name := "oscillElapseds", fn := fun _ => fun
  | [d1, d2, d3] => { results := [.lit (.bool true)], args := [d1, d2, d3] }
  | _ => none }
def oscillElapsedsRow : OpenClaim := { program := "ytcmgfhfnfkelfaa", sum := "b9614f44ab0dd20462f1e5553893993194319d1a646c5c0403169c959533bfb0", func := "ephemeris/ephemerislaw2.OscillElapseds", spec := "oscillElapseds", apart := false }
def OscillElapsedsSaid : Prop := oscillElapsedsRow.holds Try.pinned (OpenSpec.ofChange oscillElapsedsSpec)

/-- ITS FALSE NEIGHBOUR: 'it returns false'. Refute it at one input. -/
def oscillElapsedsWrong : ChangeSpec := { name := "oscillElapseds", fn := fun _ => fun
  | [d1, d2, d3] => { results := [.lit (.bool false)], args := [d1, d2, d3] }
  | _ => none }
def OscillElapsedsWrongFalsely : Prop := oscillElapsedsRow.holds Try.pinned (OpenSpec.ofChange oscillElapsedsWrong)

/-- 'ephemerislaw2.OscillPlays': WHATEVER THE INPUT: true; the input reads as it did. -/
def oscillPlaysSpec : ChangeSpec := { name := "oscillPlays", fn := fun _ => fun
  | [d1, d2, d3] => { results := [.lit (.bool true)], args := [d1, d2, d3] }
  | _ => none }
def oscillPlaysRow : OpenClaim := { program := "ytcmgfhfnfkelfaa", sum := "b9614f44ab0dd20462f1e5553893993194319d1a646c5c0403169c959533bfb0", func := "ephemeris/ephemerislaw2.OscillPlays", spec := "oscillPlays", apart := false }
def OscillPlaysSaid : Prop := oscillPlaysRow.holds Try.pinned (OpenSpec.ofChange oscillPlaysSpec)

/-- ITS FALSE NEIGHBOUR: 'it returns false'. Refute it at one input. -/
def oscillPlaysWrong : ChangeSpec := { name := "oscillPlays", fn := fun _ => fun
  | [d1, d2, d3] => { results := [.lit (.bool false)], args := [d1, d2, d3] }
  | _ => none }
def OscillPlaysWrongFalsely : Prop := oscillPlaysRow.holds Try.pinned (OpenSpec.ofChange oscillPlaysWrong)

/-- 'ephemerislaw2.LeapCounts': WHATEVER THE INPUT: true; the input reads as it did. -/
def leapCountsSpec : ChangeSpec := { name := "leapCounts", fn := fun _ => fun
  | [d1, d2] => { results := [.lit (.bool true)], args := [d1, d2] }
  | _ => none }
def leapCountsRow : OpenClaim := { program := "ytcmgfhfnfkelfaa", sum := "b9614f44ab0dd20462f1e5553893993194319d1a646c5c0403169c959533bfb0", func := "ephemeris/ephemerislaw2.LeapCounts", spec := "leapCounts", apart := false }
def LeapCountsSaid : Prop := leapCountsRow.holds Try.pinned (OpenSpec.ofChange leapCountsSpec)

/-- ITS FALSE NEIGHBOUR: 'it returns false'. Refute it at one input. -/
def leapCountsWrong : ChangeSpec := { name := "leapCounts", fn := fun _ => fun
  | [d1, d2] => { results := [.lit (.bool false)], args := [d1, d2] }
  | _ => none }
def LeapCountsWrongFalsely : Prop := leapCountsRow.holds Try.pinned (OpenSpec.ofChange leapCountsWrong)

/-- 'ephemerislaw2.LeapInstants': WHATEVER THE INPUT: true; the input reads as it did. -/
def leapInstantsSpec : ChangeSpec := { name := "leapInstants", fn := fun _ => fun
  | [d1, d2] => { results := [.lit (.bool true)], args := [d1, d2] }
  | _ => none }
def leapInstantsRow : OpenClaim := { program := "ytcmgfhfnfkelfaa", sum := "b9614f44ab0dd20462f1e5553893993194319d1a646c5c0403169c959533bfb0", func := "ephemeris/ephemerislaw2.LeapInstants", spec := "leapInstants", apart := false }
def LeapInstantsSaid : Prop := leapInstantsRow.holds Try.pinned (OpenSpec.ofChange leapInstantsSpec)

/-- ITS FALSE NEIGHBOUR: 'it returns false'. Refute it at one input. -/
def leapInstantsWrong : ChangeSpec := { name := "leapInstants", fn := fun _ => fun
  | [d1, d2] => { results := [.lit (.bool false)], args := [d1, d2] }
  | _ => none }
def LeapInstantsWrongFalsely : Prop := leapInstantsRow.holds Try.pinned (OpenSpec.ofChange leapInstantsWrong)

/-- 'ephemerislaw2.ChronTightests': WHATEVER THE INPUT: true; the input reads as it did. -/
def chronTightestsSpec : ChangeSpec := { name := "chronTightests", fn := fun _ => fun
  | [d1, d2] => { results := [.lit (.bool true)], args := [d1, d2] }
  | _ => none }
def chronTightestsRow : OpenClaim := { program := "ytcmgfhfnfkelfaa", sum := "b9614f44ab0dd20462f1e5553893993194319d1a646c5c0403169c959533bfb0", func := "ephemeris/ephemerislaw2.ChronTightests", spec := "chronTightests", apart := false }
def ChronTightestsSaid : Prop := chronTightestsRow.holds Try.pinned (OpenSpec.ofChange chronTightestsSpec)

/-- ITS FALSE NEIGHBOUR: 'it returns false'. Refute it at one input. -/
def chronTightestsWrong : ChangeSpec := { name := "chronTightests", fn := fun _ => fun
  | [d1, d2] => { results := [.lit (.bool false)], args := [d1, d2] }
  | _ => none }
def ChronTightestsWrongFalsely : Prop := chronTightestsRow.holds Try.pinned (OpenSpec.ofChange chronTightestsWrong)

/-- 'ephemerislaw2.ChronEarlys': WHATEVER THE INPUT: true; the input reads as it did. -/
def chronEarlysSpec : ChangeSpec := { name := "chronEarlys", fn := fun _ => fun
  | [d1, d2, d3, d4] => { results := [.lit (.bool true)], args := [d1, d2, d3, d4] }
  | _ => none }
def chronEarlysRow : OpenClaim := { program := "ytcmgfhfnfkelfaa", sum := "b9614f44ab0dd20462f1e5553893993194319d1a646c5c0403169c959533bfb0", func := "ephemeris/ephemerislaw2.ChronEarlys", spec := "chronEarlys", apart := false }
def ChronEarlysSaid : Prop := chronEarlysRow.holds Try.pinned (OpenSpec.ofChange chronEarlysSpec)

/-- ITS FALSE NEIGHBOUR: 'it returns false'. Refute it at one input. -/
def chronEarlysWrong : ChangeSpec := { name := "chronEarlys", fn := fun _ => fun
  | [d1, d2, d3, d4] => { results := [.lit (.bool false)], args := [d1, d2, d3, d4] }
  | _ => none }
def ChronEarlysWrongFalsely : Prop := chronEarlysRow.holds Try.pinned (OpenSpec.ofChange chronEarlysWrong)

/-- 'ephemerislaw2.AgreeMosts': WHATEVER THE INPUT: true; the input reads as it did. -/
def agreeMostsSpec : ChangeSpec := { name := "agreeMosts", fn := fun _ => fun
  | [d] => { results := [.lit (.bool true)], args := [d] }
  | _ => none }
def agreeMostsRow : OpenClaim := { program := "ytcmgfhfnfkelfaa", sum := "b9614f44ab0dd20462f1e5553893993194319d1a646c5c0403169c959533bfb0", func := "ephemeris/ephemerislaw2.AgreeMosts", spec := "agreeMosts", apart := false }
def AgreeMostsSaid : Prop := agreeMostsRow.holds Try.pinned (OpenSpec.ofChange agreeMostsSpec)

/-- ITS FALSE NEIGHBOUR: 'it returns false'. Refute it at one input. -/
def agreeMostsWrong : ChangeSpec := { name := "agreeMosts", fn := fun _ => fun
  | [d] => { results := [.lit (.bool false)], args := [d] }
  | _ => none }
def AgreeMostsWrongFalsely : Prop := agreeMostsRow.holds Try.pinned (OpenSpec.ofChange agreeMostsWrong)

/-- 'ephemerislaw2.AgreeWithins': WHATEVER THE INPUT: true; the input reads as it did. -/
def agreeWithinsSpec : ChangeSpec := { name := "agreeWithins", fn := fun _ => fun
  | [d1, d2] => { results := [.lit (.bool true)], args := [d1, d2] }
  | _ => none }
def agreeWithinsRow : OpenClaim := { program := "ytcmgfhfnfkelfaa", sum := "b9614f44ab0dd20462f1e5553893993194319d1a646c5c0403169c959533bfb0", func := "ephemeris/ephemerislaw2.AgreeWithins", spec := "agreeWithins", apart := false }
def AgreeWithinsSaid : Prop := agreeWithinsRow.holds Try.pinned (OpenSpec.ofChange agreeWithinsSpec)

/-- ITS FALSE NEIGHBOUR: 'it returns false'. Refute it at one input. -/
def agreeWithinsWrong : ChangeSpec := { name := "agreeWithins", fn := fun _ => fun
  | [d1, d2] => { results := [.lit (.bool false)], args := [d1, d2] }
  | _ => none }
def AgreeWithinsWrongFalsely : Prop := agreeWithinsRow.holds Try.pinned (OpenSpec.ofChange agreeWithinsWrong)

/-- 'ephemerislaw2.AgreeOutsides': WHATEVER THE INPUT: true; the input reads as it did. -/
def agreeOutsidesSpec : ChangeSpec := { name := "agreeOutsides", fn := fun _ => fun
  | [d] => { results := [.lit (.bool true)], args := [d] }
  | _ => none }
def agreeOutsidesRow : OpenClaim := { program := "ytcmgfhfnfkelfaa", sum := "b9614f44ab0dd20462f1e5553893993194319d1a646c5c0403169c959533bfb0", func := "ephemeris/ephemerislaw2.AgreeOutsides", spec := "agreeOutsides", apart := false }
def AgreeOutsidesSaid : Prop := agreeOutsidesRow.holds Try.pinned (OpenSpec.ofChange agreeOutsidesSpec)

/-- ITS FALSE NEIGHBOUR: 'it returns false'. Refute it at one input. -/
def agreeOutsidesWrong : ChangeSpec := { name := "agreeOutsides", fn := fun _ => fun
  | [d] => { results := [.lit (.bool false)], args := [d] }
  | _ => none }
def AgreeOutsidesWrongFalsely : Prop := agreeOutsidesRow.holds Try.pinned (OpenSpec.ofChange agreeOutsidesWrong)

/-- 'ephemerislaw2.SourceMoves': WHATEVER THE INPUT: true; the input reads as it did. -/
def sourceMovesSpec : ChangeSpec := { name := "sourceMoves", fn := fun _ => fun
  | [d1, d2, d3] => { results := [.lit (.bool true)], args := [d1, d2, d3] }
  | _ => none }
def sourceMovesRow : OpenClaim := { program := "ytcmgfhfnfkelfaa", sum := "b9614f44ab0dd20462f1e5553893993194319d1a646c5c0403169c959533bfb0", func := "ephemeris/ephemerislaw2.SourceMoves", spec := "sourceMoves", apart := false }
def SourceMovesSaid : Prop := sourceMovesRow.holds Try.pinned (OpenSpec.ofChange sourceMovesSpec)

/-- ITS FALSE NEIGHBOUR: 'it returns false'. Refute it at one input. -/
def sourceMovesWrong : ChangeSpec := { name := "sourceMoves", fn := fun _ => fun
  | [d1, d2, d3] => { results := [.lit (.bool false)], args := [d1, d2, d3] }
  | _ => none }
def SourceMovesWrongFalsely : Prop := sourceMovesRow.holds Try.pinned (OpenSpec.ofChange sourceMovesWrong)

/-- 'ephemerislaw2.ChronFits': WHATEVER THE INPUT: true; the input reads as it did. -/
def chronFitsSpec : ChangeSpec := { name := "chronFits", fn := fun _ => fun
  | [d1, d2, d3] => { results := [.lit (.bool true)], args := [d1, d2, d3] }
  | _ => none }
def chronFitsRow : OpenClaim := { program := "ytcmgfhfnfkelfaa", sum := "b9614f44ab0dd20462f1e5553893993194319d1a646c5c0403169c959533bfb0", func := "ephemeris/ephemerislaw2.ChronFits", spec := "chronFits", apart := false }
def ChronFitsSaid : Prop := chronFitsRow.holds Try.pinned (OpenSpec.ofChange chronFitsSpec)

/-- ITS FALSE NEIGHBOUR: 'it returns false'. Refute it at one input. -/
def chronFitsWrong : ChangeSpec := { name := "chronFits", fn := fun _ => fun
  | [d1, d2, d3] => { results := [.lit (.bool false)], args := [d1, d2, d3] }
  | _ => none }
def ChronFitsWrongFalsely : Prop := chronFitsRow.holds Try.pinned (OpenSpec.ofChange chronFitsWrong)

/- THE SECOND FORM. 'bulk': how many values and letters a reading holds, each counted each time it is reached (what is shared counts as often as it is met; a slice's spare places count too). A statement '..UptoSaid' is the law's where the arguments, and the package variables that the reading takes, are together of bulk at most 1048576: NARROWER than '..Said'. Prove '..Said' where nothing that the law and all that it calls make is longer than what came in: it says more and counts as full. Else prove '..UptoSaid'. A law counts once. -/
mutual
def uptoBulk {H : Type} : DataW H → Nat
  | .lit (.string bytes) => bytes.length + 1
  | .lit _ => 1
  | .nil => 1
  | .ptr d => uptoBulk d + 1
  | .slice elems spare => uptoBulkAll elems + uptoBulkAll spare + 1
  | .agg parts => uptoBulkAll parts + 1
  | .iface _ d => uptoBulk d + 1
  | .map entries => uptoBulkEntries entries + 1
  | .held _ => 1
def uptoBulkAll {H : Type} : List (DataW H) → Nat
  | [] => 0
  | d :: r => uptoBulk d + uptoBulkAll r
def uptoBulkEntries {H : Type} : List (Lit × DataW H) → Nat
  | [] => 0
  | x :: r => uptoBulkEntry x + uptoBulkEntries r
def uptoBulkEntry {H : Type} : Lit × DataW H → Nat
  | (.string bytes, d) => bytes.length + uptoBulk d + 1
  | (_, d) => uptoBulk d + 1
 end
def uptoSmall : (H : Type) → List (DataW H) → Bool := fun _ ds => decide (uptoBulkAll ds ≤ 1048576)
def OpenSpec.upto (s : _root_.Go.ChangeSpec) : _root_.Go.OpenSpec := { _root_.Go.OpenSpec.ofChange s with cond := some uptoSmall }

/-- 'ephemerislaw2.SmearSmears', WHERE WHAT IT READS IS OF BULK AT MOST 1048576: true; the input reads as it did. -/
def smearSmearsUptoRow : OpenClaim := { program := "ytcmgfhfnfkelfaa", sum := "b9614f44ab0dd20462f1e5553893993194319d1a646c5c0403169c959533bfb0", func := "ephemeris/ephemerislaw2.SmearSmears", spec := "smearSmears", apart := false, narrowed := true }
def SmearSmearsUptoSaid : Prop := smearSmearsUptoRow.holds Try.pinned (OpenSpec.upto smearSmearsSpec)

/-- 'ephemerislaw2.LinkOffsets', WHERE WHAT IT READS IS OF BULK AT MOST 1048576: true; the input reads as it did. -/
def linkOffsetsUptoRow : OpenClaim := { program := "ytcmgfhfnfkelfaa", sum := "b9614f44ab0dd20462f1e5553893993194319d1a646c5c0403169c959533bfb0", func := "ephemeris/ephemerislaw2.LinkOffsets", spec := "linkOffsets", apart := false, narrowed := true }
def LinkOffsetsUptoSaid : Prop := linkOffsetsUptoRow.holds Try.pinned (OpenSpec.upto linkOffsetsSpec)

/-- 'ephemerislaw2.OscillElapseds', WHERE WHAT IT READS IS OF BULK AT MOST 1048576: true; the input reads as it did. -/
def oscillElapsedsUptoRow : OpenClaim := { program := "ytcmgfhfnfkelfaa", sum := "b9614f44ab0dd20462f1e5553893993194319d1a646c5c0403169c959533bfb0", func := "ephemeris/ephemerislaw2.OscillElapseds", spec := "oscillElapseds", apart := false, narrowed := true }
def OscillElapsedsUptoSaid : Prop := oscillElapsedsUptoRow.holds Try.pinned (OpenSpec.upto oscillElapsedsSpec)

/-- 'ephemerislaw2.OscillPlays', WHERE WHAT IT READS IS OF BULK AT MOST 1048576: true; the input reads as it did. -/
def oscillPlaysUptoRow : OpenClaim := { program := "ytcmgfhfnfkelfaa", sum := "b9614f44ab0dd20462f1e5553893993194319d1a646c5c0403169c959533bfb0", func := "ephemeris/ephemerislaw2.OscillPlays", spec := "oscillPlays", apart := false, narrowed := true }
def OscillPlaysUptoSaid : Prop := oscillPlaysUptoRow.holds Try.pinned (OpenSpec.upto oscillPlaysSpec)

/-- 'ephemerislaw2.LeapCounts', WHERE WHAT IT READS IS OF BULK AT MOST 1048576: true; the input reads as it did. -/
def leapCountsUptoRow : OpenClaim := { program := "ytcmgfhfnfkelfaa", sum := "b9614f44ab0dd20462f1e5553893993194319d1a646c5c0403169c959533bfb0", func := "ephemeris/ephemerislaw2.LeapCounts", spec := "leapCounts", apart := false, narrowed := true }
def LeapCountsUptoSaid : Prop := leapCountsUptoRow.holds Try.pinned (OpenSpec.upto leapCountsSpec)

/-- 'ephemerislaw2.LeapInstants', WHERE WHAT IT READS IS OF BULK AT MOST 1048576: true; the input reads as it did. -/
def leapInstantsUptoRow : OpenClaim := { program := "ytcmgfhfnfkelfaa", sum := "b9614f44ab0dd20462f1e5553893993194319d1a646c5c0403169c959533bfb0", func := "ephemeris/ephemerislaw2.LeapInstants", spec := "leapInstants", apart := false, narrowed := true }
def LeapInstantsUptoSaid : Prop := leapInstantsUptoRow.holds Try.pinned (OpenSpec.upto leapInstantsSpec)

/-- 'ephemerislaw2.ChronTightests', WHERE WHAT IT READS IS OF BULK AT MOST 1048576: true; the input reads as it did. -/
def chronTightestsUptoRow : OpenClaim := { program := "ytcmgfhfnfkelfaa", sum := "b9614f44ab0dd20462f1e5553893993194319d1a646c5c0403169c959533bfb0", func := "ephemeris/ephemerislaw2.ChronTightests", spec := "chronTightests", apart := false, narrowed := true }
def ChronTightestsUptoSaid : Prop := chronTightestsUptoRow.holds Try.pinned (OpenSpec.upto chronTightestsSpec)

/-- 'ephemerislaw2.ChronEarlys', WHERE WHAT IT READS IS OF BULK AT MOST 1048576: true; the input reads as it did. -/
def chronEarlysUptoRow : OpenClaim := { program := "ytcmgfhfnfkelfaa", sum := "b9614f44ab0dd20462f1e5553893993194319d1a646c5c0403169c959533bfb0", func := "ephemeris/ephemerislaw2.ChronEarlys", spec := "chronEarlys", apart := false, narrowed := true }
def ChronEarlysUptoSaid : Prop := chronEarlysUptoRow.holds Try.pinned (OpenSpec.upto chronEarlysSpec)

/-- 'ephemerislaw2.AgreeMosts', WHERE WHAT IT READS IS OF BULK AT MOST 1048576: true; the input reads as it did. -/
def agreeMostsUptoRow : OpenClaim := { program := "ytcmgfhfnfkelfaa", sum := "b9614f44ab0dd20462f1e5553893993194319d1a646c5c0403169c959533bfb0", func := "ephemeris/ephemerislaw2.AgreeMosts", spec := "agreeMosts", apart := false, narrowed := true }
def AgreeMostsUptoSaid : Prop := agreeMostsUptoRow.holds Try.pinned (OpenSpec.upto agreeMostsSpec)

/-- 'ephemerislaw2.AgreeWithins', WHERE WHAT IT READS IS OF BULK AT MOST 1048576: true; the input reads as it did. -/
def agreeWithinsUptoRow : OpenClaim := { program := "ytcmgfhfnfkelfaa", sum := "b9614f44ab0dd20462f1e5553893993194319d1a646c5c0403169c959533bfb0", func := "ephemeris/ephemerislaw2.AgreeWithins", spec := "agreeWithins", apart := false, narrowed := true }
def AgreeWithinsUptoSaid : Prop := agreeWithinsUptoRow.holds Try.pinned (OpenSpec.upto agreeWithinsSpec)

/-- 'ephemerislaw2.AgreeOutsides', WHERE WHAT IT READS IS OF BULK AT MOST 1048576: true; the input reads as it did. -/
def agreeOutsidesUptoRow : OpenClaim := { program := "ytcmgfhfnfkelfaa", sum := "b9614f44ab0dd20462f1e5553893993194319d1a646c5c0403169c959533bfb0", func := "ephemeris/ephemerislaw2.AgreeOutsides", spec := "agreeOutsides", apart := false, narrowed := true }
def AgreeOutsidesUptoSaid : Prop := agreeOutsidesUptoRow.holds Try.pinned (OpenSpec.upto agreeOutsidesSpec)

/-- 'ephemerislaw2.SourceMoves', WHERE WHAT IT READS IS OF BULK AT MOST 1048576: true; the input reads as it did. -/
def sourceMovesUptoRow : OpenClaim := { program := "ytcmgfhfnfkelfaa", sum := "b9614f44ab0dd20462f1e5553893993194319d1a646c5c0403169c959533bfb0", func := "ephemeris/ephemerislaw2.SourceMoves", spec := "sourceMoves", apart := false, narrowed := true }
def SourceMovesUptoSaid : Prop := sourceMovesUptoRow.holds Try.pinned (OpenSpec.upto sourceMovesSpec)

/-- 'ephemerislaw2.ChronFits', WHERE WHAT IT READS IS OF BULK AT MOST 1048576: true; the input reads as it did. -/
def chronFitsUptoRow : OpenClaim := { program := "ytcmgfhfnfkelfaa", sum := "b9614f44ab0dd20462f1e5553893993194319d1a646c5c0403169c959533bfb0", func := "ephemeris/ephemerislaw2.ChronFits", spec := "chronFits", apart := false, narrowed := true }
def ChronFitsUptoSaid : Prop := chronFitsUptoRow.holds Try.pinned (OpenSpec.upto chronFitsSpec)

end Rows
end Go.Proofs.Ytcmgfhfnfkelfaa
