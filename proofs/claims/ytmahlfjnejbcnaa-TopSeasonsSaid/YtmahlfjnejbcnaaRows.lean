/-
  No cell of these rows narrows 'for every input' (looked for: loops, veiled, ifaces, maps, wideKeys, modest, calm, conditions, laid).
  DERIVED. THE GIVEN ROWS OF THIS SEAT. 7 by the template 'for every input the law returns true; each argument reads behind the call as it read before'; 0 by the template 'total and deterministic' (their statements: YtmahlfjnejbcnaaTotals.lean).
  GIVEN WITH THE SEED: the statements are not yours to turn. If you find one false, say at which input.
  Laid BY PROGRAM, IN A SANDBOX (cutbox-rows.mjs): the forced cells as the released guide's own fill.sh prints them over the translation 693bad335f9204ea… (all of the seat's roots in one cut). By AI agents, Wed Nov 11 2026. No macro, syntax, notation, axiom, sorry.
-/
import Derived.Test.YtmahlfjnejbcnaaChecked
import GoSem.Claim
import GoSem.ClaimJoined
import GoSem.ClaimMapViews
import Derived.JoinedTies
import Derived.KernelRfl
namespace Go.Proofs.Ytmahlfjnejbcnaa
/- THE CELL 'sum', in the pinned program and in every row, IS THE sha256 OF THE DUMP (.gsa) THAT YtmahlfjnejbcnaaProg.lean LOADS. Nothing in Lean hashes anything: it is a label: what it is worth is what the hold of that sum in a sandbox is worth. -/
noncomputable def Try.pinned : Pinned := { name := "ytmahlfjnejbcnaa", sum := "693bad335f9204ea53357a6af64f80c6443781aaab1e72481a4b9aca7cc45969", checked := Try.checked }
namespace Rows
def none {H : Type} : Left H := { results := [], args := [] }

/-- 'ephemerislaw2.SharpenSeasons': WHATEVER THE INPUT: true; the input reads as it did. -/
def sharpenSeasonsSpec : ChangeSpec := { name := "sharpenSeasons", fn := fun _ => fun
  | [d1, d2, d3, d4] => { results := [.lit (.bool true)], args := [d1, d2, d3, d4] }
  | _ => none }
def sharpenSeasonsRow : OpenClaim := { program := "ytmahlfjnejbcnaa", sum := "693bad335f9204ea53357a6af64f80c6443781aaab1e72481a4b9aca7cc45969", func := "ephemeris/ephemerislaw2.SharpenSeasons", spec := "sharpenSeasons", unfollowed := true, recurses := true, apart := false }
def SharpenSeasonsSaid : Prop := sharpenSeasonsRow.holds Try.pinned (OpenSpec.ofChange sharpenSeasonsSpec)

/-- ITS FALSE NEIGHBOUR: 'it returns false'. Refute it at one input. -/
def sharpenSeasonsWrong : ChangeSpec := { name := "sharpenSeasons", fn := fun _ => fun
  | [d1, d2, d3, d4] => { results := [.lit (.bool false)], args := [d1, d2, d3, d4] }
  | _ => none }
def SharpenSeasonsWrongFalsely : Prop := sharpenSeasonsRow.holds Try.pinned (OpenSpec.ofChange sharpenSeasonsWrong)

/-- 'ephemerislaw2.SharpenPhases': WHATEVER THE INPUT: true; the input reads as it did. -/
def sharpenPhasesSpec : ChangeSpec := { name := "sharpenPhases", fn := fun _ => fun
  | [d1, d2, d3, d4, d5] => { results := [.lit (.bool true)], args := [d1, d2, d3, d4, d5] }
  | _ => none }
def sharpenPhasesRow : OpenClaim := { program := "ytmahlfjnejbcnaa", sum := "693bad335f9204ea53357a6af64f80c6443781aaab1e72481a4b9aca7cc45969", func := "ephemeris/ephemerislaw2.SharpenPhases", spec := "sharpenPhases", unfollowed := true, recurses := true, apart := false }
def SharpenPhasesSaid : Prop := sharpenPhasesRow.holds Try.pinned (OpenSpec.ofChange sharpenPhasesSpec)

/-- ITS FALSE NEIGHBOUR: 'it returns false'. Refute it at one input. -/
def sharpenPhasesWrong : ChangeSpec := { name := "sharpenPhases", fn := fun _ => fun
  | [d1, d2, d3, d4, d5] => { results := [.lit (.bool false)], args := [d1, d2, d3, d4, d5] }
  | _ => none }
def SharpenPhasesWrongFalsely : Prop := sharpenPhasesRow.holds Try.pinned (OpenSpec.ofChange sharpenPhasesWrong)

/-- 'ephemerislaw2.SharpenDecides': WHATEVER THE INPUT: true; the input reads as it did. -/
def sharpenDecidesSpec : ChangeSpec := { name := "sharpenDecides", fn := fun _ => fun
  | [d1, d2, d3, d4] => { results := [.lit (.bool true)], args := [d1, d2, d3, d4] }
  | _ => none }
def sharpenDecidesRow : OpenClaim := { program := "ytmahlfjnejbcnaa", sum := "693bad335f9204ea53357a6af64f80c6443781aaab1e72481a4b9aca7cc45969", func := "ephemeris/ephemerislaw2.SharpenDecides", spec := "sharpenDecides", unfollowed := true, recurses := true, apart := false }
def SharpenDecidesSaid : Prop := sharpenDecidesRow.holds Try.pinned (OpenSpec.ofChange sharpenDecidesSpec)

/-- ITS FALSE NEIGHBOUR: 'it returns false'. Refute it at one input. -/
def sharpenDecidesWrong : ChangeSpec := { name := "sharpenDecides", fn := fun _ => fun
  | [d1, d2, d3, d4] => { results := [.lit (.bool false)], args := [d1, d2, d3, d4] }
  | _ => none }
def SharpenDecidesWrongFalsely : Prop := sharpenDecidesRow.holds Try.pinned (OpenSpec.ofChange sharpenDecidesWrong)

/-- 'ephemerislaw2.EclipseFinds': WHATEVER THE INPUT: true; the input reads as it did. -/
def eclipseFindsSpec : ChangeSpec := { name := "eclipseFinds", fn := fun _ => fun
  | [d1, d2, d3] => { results := [.lit (.bool true)], args := [d1, d2, d3] }
  | _ => none }
def eclipseFindsRow : OpenClaim := { program := "ytmahlfjnejbcnaa", sum := "693bad335f9204ea53357a6af64f80c6443781aaab1e72481a4b9aca7cc45969", func := "ephemeris/ephemerislaw2.EclipseFinds", spec := "eclipseFinds", unfollowed := true, recurses := true, apart := false }
def EclipseFindsSaid : Prop := eclipseFindsRow.holds Try.pinned (OpenSpec.ofChange eclipseFindsSpec)

/-- ITS FALSE NEIGHBOUR: 'it returns false'. Refute it at one input. -/
def eclipseFindsWrong : ChangeSpec := { name := "eclipseFinds", fn := fun _ => fun
  | [d1, d2, d3] => { results := [.lit (.bool false)], args := [d1, d2, d3] }
  | _ => none }
def EclipseFindsWrongFalsely : Prop := eclipseFindsRow.holds Try.pinned (OpenSpec.ofChange eclipseFindsWrong)

/-- 'ephemerislaw2.EclipseNexts': WHATEVER THE INPUT: true; the input reads as it did. -/
def eclipseNextsSpec : ChangeSpec := { name := "eclipseNexts", fn := fun _ => fun
  | [d1, d2] => { results := [.lit (.bool true)], args := [d1, d2] }
  | _ => none }
def eclipseNextsRow : OpenClaim := { program := "ytmahlfjnejbcnaa", sum := "693bad335f9204ea53357a6af64f80c6443781aaab1e72481a4b9aca7cc45969", func := "ephemeris/ephemerislaw2.EclipseNexts", spec := "eclipseNexts", unfollowed := true, recurses := true, apart := false }
def EclipseNextsSaid : Prop := eclipseNextsRow.holds Try.pinned (OpenSpec.ofChange eclipseNextsSpec)

/-- ITS FALSE NEIGHBOUR: 'it returns false'. Refute it at one input. -/
def eclipseNextsWrong : ChangeSpec := { name := "eclipseNexts", fn := fun _ => fun
  | [d1, d2] => { results := [.lit (.bool false)], args := [d1, d2] }
  | _ => none }
def EclipseNextsWrongFalsely : Prop := eclipseNextsRow.holds Try.pinned (OpenSpec.ofChange eclipseNextsWrong)

/-- 'ephemeristop.TopPhases': WHATEVER THE INPUT: true; the input reads as it did. -/
def topPhasesSpec : ChangeSpec := { name := "topPhases", fn := fun _ => fun
  | [d1, d2] => { results := [.lit (.bool true)], args := [d1, d2] }
  | _ => none }
def topPhasesRow : OpenClaim := { program := "ytmahlfjnejbcnaa", sum := "693bad335f9204ea53357a6af64f80c6443781aaab1e72481a4b9aca7cc45969", func := "ephemeris/ephemeristop.TopPhases", spec := "topPhases", unfollowed := true, recurses := true, apart := false }
def TopPhasesSaid : Prop := topPhasesRow.holds Try.pinned (OpenSpec.ofChange topPhasesSpec)

/-- ITS FALSE NEIGHBOUR: 'it returns false'. Refute it at one input. -/
def topPhasesWrong : ChangeSpec := { name := "topPhases", fn := fun _ => fun
  | [d1, d2] => { results := [.lit (.bool false)], args := [d1, d2] }
  | _ => none }
def TopPhasesWrongFalsely : Prop := topPhasesRow.holds Try.pinned (OpenSpec.ofChange topPhasesWrong)

/-- 'ephemeristop.TopSeasons': WHATEVER THE INPUT: true; the input reads as it did. -/
def topSeasonsSpec : ChangeSpec := { name := "topSeasons", fn := fun _ => fun
  | [d1, d2] => { results := [.lit (.bool true)], args := [d1, d2] }
  | _ => none }
def topSeasonsRow : OpenClaim := { program := "ytmahlfjnejbcnaa", sum := "693bad335f9204ea53357a6af64f80c6443781aaab1e72481a4b9aca7cc45969", func := "ephemeris/ephemeristop.TopSeasons", spec := "topSeasons", unfollowed := true, recurses := true, apart := false }
def TopSeasonsSaid : Prop := topSeasonsRow.holds Try.pinned (OpenSpec.ofChange topSeasonsSpec)

/-- ITS FALSE NEIGHBOUR: 'it returns false'. Refute it at one input. -/
def topSeasonsWrong : ChangeSpec := { name := "topSeasons", fn := fun _ => fun
  | [d1, d2] => { results := [.lit (.bool false)], args := [d1, d2] }
  | _ => none }
def TopSeasonsWrongFalsely : Prop := topSeasonsRow.holds Try.pinned (OpenSpec.ofChange topSeasonsWrong)

/- THE SECOND FORM. 'bulk': how many values and letters a reading holds, each counted each time it is reached (what is shared counts as often as it is met; a slice's spare places count too). A statement '..UptoSaid' is the law's where the arguments, and the package variables that the reading takes, are together of bulk at most 1048576: NARROWER than '..Said'. Prove '..Said' where nothing that the law and all that it calls make is longer than what came in: it says more and counts as full. Else prove '..UptoSaid'. A law counts once. -/
mutual
def uptoBulk {H : Type} : DataW H → Nat
  | .lit (.string bytes) => bytes.length + 1
  | .lit _ => 1
  | .nil => 1
  | .ptr d => uptoBulk d + 1
  | .slice elems spare => uptoBulkAll elems + uptoBulkAll spare + 1
  | .agg parts => uptoBulkAll parts + 1
  | .iface _ d => uptoBulk d + 1
  | .map entries => uptoBulkEntries entries + 1
  | .held _ => 1
def uptoBulkAll {H : Type} : List (DataW H) → Nat
  | [] => 0
  | d :: r => uptoBulk d + uptoBulkAll r
def uptoBulkEntries {H : Type} : List (Lit × DataW H) → Nat
  | [] => 0
  | x :: r => uptoBulkEntry x + uptoBulkEntries r
def uptoBulkEntry {H : Type} : Lit × DataW H → Nat
  | (.string bytes, d) => bytes.length + uptoBulk d + 1
  | (_, d) => uptoBulk d + 1
 end
def uptoSmall : (H : Type) → List (DataW H) → Bool := fun _ ds => decide (uptoBulkAll ds ≤ 1048576)
def OpenSpec.upto (s : _root_.Go.ChangeSpec) : _root_.Go.OpenSpec := { _root_.Go.OpenSpec.ofChange s with cond := some uptoSmall }

/-- 'ephemerislaw2.SharpenSeasons', WHERE WHAT IT READS IS OF BULK AT MOST 1048576: true; the input reads as it did. -/
def sharpenSeasonsUptoRow : OpenClaim := { program := "ytmahlfjnejbcnaa", sum := "693bad335f9204ea53357a6af64f80c6443781aaab1e72481a4b9aca7cc45969", func := "ephemeris/ephemerislaw2.SharpenSeasons", spec := "sharpenSeasons", unfollowed := true, recurses := true, apart := false, narrowed := true }
def SharpenSeasonsUptoSaid : Prop := sharpenSeasonsUptoRow.holds Try.pinned (OpenSpec.upto sharpenSeasonsSpec)

/-- 'ephemerislaw2.SharpenPhases', WHERE WHAT IT READS IS OF BULK AT MOST 1048576: true; the input reads as it did. -/
def sharpenPhasesUptoRow : OpenClaim := { program := "ytmahlfjnejbcnaa", sum := "693bad335f9204ea53357a6af64f80c6443781aaab1e72481a4b9aca7cc45969", func := "ephemeris/ephemerislaw2.SharpenPhases", spec := "sharpenPhases", unfollowed := true, recurses := true, apart := false, narrowed := true }
def SharpenPhasesUptoSaid : Prop := sharpenPhasesUptoRow.holds Try.pinned (OpenSpec.upto sharpenPhasesSpec)

/-- 'ephemerislaw2.SharpenDecides', WHERE WHAT IT READS IS OF BULK AT MOST 1048576: true; the input reads as it did. -/
def sharpenDecidesUptoRow : OpenClaim := { program := "ytmahlfjnejbcnaa", sum := "693bad335f9204ea53357a6af64f80c6443781aaab1e72481a4b9aca7cc45969", func := "ephemeris/ephemerislaw2.SharpenDecides", spec := "sharpenDecides", unfollowed := true, recurses := true, apart := false, narrowed := true }
def SharpenDecidesUptoSaid : Prop := sharpenDecidesUptoRow.holds Try.pinned (OpenSpec.upto sharpenDecidesSpec)

/-- 'ephemerislaw2.EclipseFinds', WHERE WHAT IT READS IS OF BULK AT MOST 1048576: true; the input reads as it did. -/
def eclipseFindsUptoRow : OpenClaim := { program := "ytmahlfjnejbcnaa", sum := "693bad335f9204ea53357a6af64f80c6443781aaab1e72481a4b9aca7cc45969", func := "ephemeris/ephemerislaw2.EclipseFinds", spec := "eclipseFinds", unfollowed := true, recurses := true, apart := false, narrowed := true }
def EclipseFindsUptoSaid : Prop := eclipseFindsUptoRow.holds Try.pinned (OpenSpec.upto eclipseFindsSpec)

/-- 'ephemerislaw2.EclipseNexts', WHERE WHAT IT READS IS OF BULK AT MOST 1048576: true; the input reads as it did. -/
def eclipseNextsUptoRow : OpenClaim := { program := "ytmahlfjnejbcnaa", sum := "693bad335f9204ea53357a6af64f80c6443781aaab1e72481a4b9aca7cc45969", func := "ephemeris/ephemerislaw2.EclipseNexts", spec := "eclipseNexts", unfollowed := true, recurses := true, apart := false, narrowed := true }
def EclipseNextsUptoSaid : Prop := eclipseNextsUptoRow.holds Try.pinned (OpenSpec.upto eclipseNextsSpec)

/-- 'ephemeristop.TopPhases', WHERE WHAT IT READS IS OF BULK AT MOST 1048576: true; the input reads as it did. -/
def topPhasesUptoRow : OpenClaim := { program := "ytmahlfjnejbcnaa", sum := "693bad335f9204ea53357a6af64f80c6443781aaab1e72481a4b9aca7cc45969", func := "ephemeris/ephemeristop.TopPhases", spec := "topPhases", unfollowed := true, recurses := true, apart := false, narrowed := true }
def TopPhasesUptoSaid : Prop := topPhasesUptoRow.holds Try.pinned (OpenSpec.upto topPhasesSpec)

/-- 'ephemeristop.TopSeasons', WHERE WHAT IT READS IS OF BULK AT MOST 1048576: true; the input reads as it did. -/
def topSeasonsUptoRow : OpenClaim := { program := "ytmahlfjnejbcnaa", sum := "693bad335f9204ea53357a6af64f80c6443781aaab1e72481a4b9aca7cc45969", func := "ephemeris/ephemeristop.TopSeasons", spec := "topSeasons", unfollowed := true, recurses := true, apart := false, narrowed := true }
def TopSeasonsUptoSaid : Prop := topSeasonsUptoRow.holds Try.pinned (OpenSpec.upto topSeasonsSpec)

end Rows
end Go.Proofs.Ytmahlfjnejbcnaa
