/-
  No cell of these rows narrows 'for every input' (looked for: loops, veiled, ifaces, maps, wideKeys, modest, calm, conditions, laid).
  DERIVED. THE GIVEN ROWS OF THIS SEAT. 4 by the template 'for every input the law returns true; each argument reads behind the call as it read before'; 0 by the template 'total and deterministic' (their statements: YtblidfmhlhhmkaaTotals.lean).
  GIVEN WITH THE SEED: the statements are not yours to turn. If you find one false, say at which input.
  Laid BY PROGRAM, IN A SANDBOX (cutbox-rows.mjs): the forced cells as the released guide's own fill.sh prints them over the translation 34e224b8138580cf… (all of the seat's roots in one cut). By AI agents, Wed Nov 11 2026. No macro, syntax, notation, axiom, sorry.
-/
import Derived.Test.YtblidfmhlhhmkaaChecked
import GoSem.Claim
import GoSem.ClaimJoined
import GoSem.ClaimMapViews
import Derived.JoinedTies
import Derived.KernelRfl
namespace Go.Proofs.Ytblidfmhlhhmkaa
/- THE CELL 'sum', in the pinned program and in every row, IS THE sha256 OF THE DUMP (.gsa) THAT YtblidfmhlhhmkaaProg.lean LOADS. Nothing in Lean hashes anything: it is a label: what it is worth is what the hold of that sum in a sandbox is worth. -/
noncomputable def Try.pinned : Pinned := { name := "ytblidfmhlhhmkaa", sum := "34e224b8138580cfb17be5af4c97f02b64358124f74c8dc0b2f3312e07fd0a29", checked := Try.checked }
namespace Rows
def none {H : Type} : Left H := { results := [], args := [] }

/-- 'ephemerislaw2.ChronFits': WHATEVER THE INPUT: true; the input reads as it did. -/
def chronFitsSpec : ChangeSpec := { name := "chronFits", fn := fun _ => fun
  | [d1, d2, d3] => { results := [.lit (.bool true)], args := [d1, d2, d3] }
  | _ => none }
def chronFitsRow : OpenClaim := { program := "ytblidfmhlhhmkaa", sum := "34e224b8138580cfb17be5af4c97f02b64358124f74c8dc0b2f3312e07fd0a29", func := "ephemeris/ephemerislaw2.ChronFits", spec := "chronFits", apart := false }
def ChronFitsSaid : Prop := chronFitsRow.holds Try.pinned (OpenSpec.ofChange chronFitsSpec)

/-- ITS FALSE NEIGHBOUR: 'it returns false'. Refute it at one input. -/
def chronFitsWrong : ChangeSpec := { name := "chronFits", fn := fun _ => fun
  | [d1, d2, d3] => { results := [.lit (.bool false)], args := [d1, d2, d3] }
  | _ => none }
def ChronFitsWrongFalsely : Prop := chronFitsRow.holds Try.pinned (OpenSpec.ofChange chronFitsWrong)

/-- 'ephemerislaw2.ChronTightests': WHATEVER THE INPUT: true; the input reads as it did. -/
def chronTightestsSpec : ChangeSpec := { name := "chronTightests", fn := fun _ => fun
  | [d1, d2] => { results := [.lit (.bool true)], args := [d1, d2] }
  | _ => none }
def chronTightestsRow : OpenClaim := { program := "ytblidfmhlhhmkaa", sum := "34e224b8138580cfb17be5af4c97f02b64358124f74c8dc0b2f3312e07fd0a29", func := "ephemeris/ephemerislaw2.ChronTightests", spec := "chronTightests", apart := false }
def ChronTightestsSaid : Prop := chronTightestsRow.holds Try.pinned (OpenSpec.ofChange chronTightestsSpec)

/-- ITS FALSE NEIGHBOUR: 'it returns false'. Refute it at one input. -/
def chronTightestsWrong : ChangeSpec := { name := "chronTightests", fn := fun _ => fun
  | [d1, d2] => { results := [.lit (.bool false)], args := [d1, d2] }
  | _ => none }
def ChronTightestsWrongFalsely : Prop := chronTightestsRow.holds Try.pinned (OpenSpec.ofChange chronTightestsWrong)

/-- 'ephemerislaw2.ChronEarlys': WHATEVER THE INPUT: true; the input reads as it did. -/
def chronEarlysSpec : ChangeSpec := { name := "chronEarlys", fn := fun _ => fun
  | [d1, d2, d3, d4] => { results := [.lit (.bool true)], args := [d1, d2, d3, d4] }
  | _ => none }
def chronEarlysRow : OpenClaim := { program := "ytblidfmhlhhmkaa", sum := "34e224b8138580cfb17be5af4c97f02b64358124f74c8dc0b2f3312e07fd0a29", func := "ephemeris/ephemerislaw2.ChronEarlys", spec := "chronEarlys", apart := false }
def ChronEarlysSaid : Prop := chronEarlysRow.holds Try.pinned (OpenSpec.ofChange chronEarlysSpec)

/-- ITS FALSE NEIGHBOUR: 'it returns false'. Refute it at one input. -/
def chronEarlysWrong : ChangeSpec := { name := "chronEarlys", fn := fun _ => fun
  | [d1, d2, d3, d4] => { results := [.lit (.bool false)], args := [d1, d2, d3, d4] }
  | _ => none }
def ChronEarlysWrongFalsely : Prop := chronEarlysRow.holds Try.pinned (OpenSpec.ofChange chronEarlysWrong)

/-- 'ephemerislaw2.OscillPlays': WHATEVER THE INPUT: true; the input reads as it did. -/
def oscillPlaysSpec : ChangeSpec := { name := "oscillPlays", fn := fun _ => fun
  | [d1, d2, d3] => { results := [.lit (.bool true)], args := [d1, d2, d3] }
  | _ => none }
def oscillPlaysRow : OpenClaim := { program := "ytblidfmhlhhmkaa", sum := "34e224b8138580cfb17be5af4c97f02b64358124f74c8dc0b2f3312e07fd0a29", func := "ephemeris/ephemerislaw2.OscillPlays", spec := "oscillPlays", apart := false }
def OscillPlaysSaid : Prop := oscillPlaysRow.holds Try.pinned (OpenSpec.ofChange oscillPlaysSpec)

/-- ITS FALSE NEIGHBOUR: 'it returns false'. Refute it at one input. -/
def oscillPlaysWrong : ChangeSpec := { name := "oscillPlays", fn := fun _ => fun
  | [d1, d2, d3] => { results := [.lit (.bool false)], args := [d1, d2, d3] }
  | _ => none }
def OscillPlaysWrongFalsely : Prop := oscillPlaysRow.holds Try.pinned (OpenSpec.ofChange oscillPlaysWrong)

/- THE SECOND FORM. 'bulk': how many values and letters a reading holds, each counted each time it is reached (what is shared counts as often as it is met; a slice's spare places count too). A statement '..UptoSaid' is the law's where the arguments, and the package variables that the reading takes, are together of bulk at most 1048576: NARROWER than '..Said'. Prove '..Said' where nothing that the law and all that it calls make is longer than what came in: it says more and counts as full. Else prove '..UptoSaid'. A law counts once. -/
mutual
def uptoBulk {H : Type} : DataW H → Nat
  | .lit (.string bytes) => bytes.length + 1
  | .lit _ => 1
  | .nil => 1
  | .ptr d => uptoBulk d + 1
  | .slice elems spare => uptoBulkAll elems + uptoBulkAll spare + 1
  | .agg parts => uptoBulkAll parts + 1
  | .iface _ d => uptoBulk d + 1
  | .map entries => uptoBulkEntries entries + 1
  | .held _ => 1
def uptoBulkAll {H : Type} : List (DataW H) → Nat
  | [] => 0
  | d :: r => uptoBulk d + uptoBulkAll r
def uptoBulkEntries {H : Type} : List (Lit × DataW H) → Nat
  | [] => 0
  | x :: r => uptoBulkEntry x + uptoBulkEntries r
def uptoBulkEntry {H : Type} : Lit × DataW H → Nat
  | (.string bytes, d) => bytes.length + uptoBulk d + 1
  | (_, d) => uptoBulk d + 1
 end
def uptoSmall : (H : Type) → List (DataW H) → Bool := fun _ ds => decide (uptoBulkAll ds ≤ 1048576)
def OpenSpec.upto (s : _root_.Go.ChangeSpec) : _root_.Go.OpenSpec := { _root_.Go.OpenSpec.ofChange s with cond := some uptoSmall }

/-- 'ephemerislaw2.ChronFits', WHERE WHAT IT READS IS OF BULK AT MOST 1048576: true; the input reads as it did. -/
def chronFitsUptoRow : OpenClaim := { program := "ytblidfmhlhhmkaa", sum := "34e224b8138580cfb17be5af4c97f02b64358124f74c8dc0b2f3312e07fd0a29", func := "ephemeris/ephemerislaw2.ChronFits", spec := "chronFits", apart := false, narrowed := true }
def ChronFitsUptoSaid : Prop := chronFitsUptoRow.holds Try.pinned (OpenSpec.upto chronFitsSpec)

/-- 'ephemerislaw2.ChronTightests', WHERE WHAT IT READS IS OF BULK AT MOST 1048576: true; the input reads as it did. -/
def chronTightestsUptoRow : OpenClaim := { program := "ytblidfmhlhhmkaa", sum := "34e224b8138580cfb17be5af4c97f02b64358124f74c8dc0b2f3312e07fd0a29", func := "ephemeris/ephemerislaw2.ChronTightests", spec := "chronTightests", apart := false, narrowed := true }
def ChronTightestsUptoSaid : Prop := chronTightestsUptoRow.holds Try.pinned (OpenSpec.upto chronTightestsSpec)

/-- 'ephemerislaw2.ChronEarlys', WHERE WHAT IT READS IS OF BULK AT MOST 1048576: true; the input reads as it did. -/
def chronEarlysUptoRow : OpenClaim := { program := "ytblidfmhlhhmkaa", sum := "34e224b8138580cfb17be5af4c97f02b64358124f74c8dc0b2f3312e07fd0a29", func := "ephemeris/ephemerislaw2.ChronEarlys", spec := "chronEarlys", apart := false, narrowed := true }
def ChronEarlysUptoSaid : Prop := chronEarlysUptoRow.holds Try.pinned (OpenSpec.upto chronEarlysSpec)

/-- 'ephemerislaw2.OscillPlays', WHERE WHAT IT READS IS OF BULK AT MOST 1048576: true; the input reads as it did. -/
def oscillPlaysUptoRow : OpenClaim := { program := "ytblidfmhlhhmkaa", sum := "34e224b8138580cfb17be5af4c97f02b64358124f74c8dc0b2f3312e07fd0a29", func := "ephemeris/ephemerislaw2.OscillPlays", spec := "oscillPlays", apart := false, narrowed := true }
def OscillPlaysUptoSaid : Prop := oscillPlaysUptoRow.holds Try.pinned (OpenSpec.upto oscillPlaysSpec)

end Rows
end Go.Proofs.Ytblidfmhlhhmkaa
