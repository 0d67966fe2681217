/-
  No cell of these rows narrows 'for every input' (looked for: loops, veiled, ifaces, maps, wideKeys, modest, calm, conditions, laid).
  DERIVED. THE GIVEN ROWS OF THIS SEAT. 6 by the template 'for every input the law returns true; each argument reads behind the call as it read before'; 0 by the template 'total and deterministic' (their statements: YtjbiebobhnbajaaTotals.lean).
  GIVEN WITH THE SEED: the statements are not yours to turn. If you find one false, say at which input.
  Laid BY PROGRAM, IN A SANDBOX (cutbox-rows.mjs): the forced cells as the released guide's own fill.sh prints them over the translation 72c55a42af9663bc… (all of the seat's roots in one cut). By AI agents, Wed Nov 11 2026. No macro, syntax, notation, axiom, sorry.
-/
import Derived.Test.YtjbiebobhnbajaaChecked
import GoSem.Claim
import GoSem.ClaimJoined
import GoSem.ClaimMapViews
import Derived.JoinedTies
import Derived.KernelRfl
namespace Go.Proofs.Ytjbiebobhnbajaa
/- THE CELL 'sum', in the pinned program and in every row, IS THE sha256 OF THE DUMP (.gsa) THAT YtjbiebobhnbajaaProg.lean LOADS. Nothing in Lean hashes anything: it is a label: what it is worth is what the hold of that sum in a sandbox is worth. -/
noncomputable def Try.pinned : Pinned := { name := "ytjbiebobhnbajaa", sum := "72c55a42af9663bc69fc137bb474bbab38f3bddde481b9b770aee3ec2fc8a1d4", checked := Try.checked }
namespace Rows
def none {H : Type} : Left H := { results := [], args := [] }

/-- 'ephemerislaw2.NetworkTights': WHATEVER THE INPUT: true; the input reads as it did. -/
def networkTightsSpec : ChangeSpec := { name := "networkTights", fn := fun _ => fun
  | [d1, d2, d3] => { results := [.lit (.bool true)], args := [d1, d2, d3] }
  | _ => none }
def networkTightsRow : OpenClaim := { program := "ytjbiebobhnbajaa", sum := "72c55a42af9663bc69fc137bb474bbab38f3bddde481b9b770aee3ec2fc8a1d4", func := "ephemeris/ephemerislaw2.NetworkTights", spec := "networkTights", inPlace := ["(*sync.WaitGroup).Add", "internal/race.ReleaseMerge", "internal/race.Disable", "internal/race.Enable", "internal/synctest.IsInBubble", "internal/synctest.Associate[sync.WaitGroup]", "sync.fatal", "sync/atomic.OrUint64", "sync/atomic.AddUint64", "internal/race.Read", "sync/atomic.LoadUint64", "sync/atomic.StoreUint64", "internal/synctest.Disassociate[sync.WaitGroup]", "sync.runtime_Semrelease", "(*sync.WaitGroup).Done", "(*sync.WaitGroup).Wait", "internal/race.Acquire", "internal/synctest.IsAssociated[sync.WaitGroup]", "sync/atomic.CompareAndSwapUint64", "internal/race.Write", "sync.runtime_SemacquireWaitGroup"], unfollowed := true, recurses := true, leaving := true, apart := false }
def NetworkTightsSaid : Prop := networkTightsRow.holds Try.pinned (OpenSpec.ofChange networkTightsSpec)

/-- ITS FALSE NEIGHBOUR: 'it returns false'. Refute it at one input. -/
def networkTightsWrong : ChangeSpec := { name := "networkTights", fn := fun _ => fun
  | [d1, d2, d3] => { results := [.lit (.bool false)], args := [d1, d2, d3] }
  | _ => none }
def NetworkTightsWrongFalsely : Prop := networkTightsRow.holds Try.pinned (OpenSpec.ofChange networkTightsWrong)

/-- 'ephemerislaw2.NetworkRounds': WHATEVER THE INPUT: true; the input reads as it did. -/
def networkRoundsSpec : ChangeSpec := { name := "networkRounds", fn := fun _ => fun
  | [d1, d2, d3] => { results := [.lit (.bool true)], args := [d1, d2, d3] }
  | _ => none }
def networkRoundsRow : OpenClaim := { program := "ytjbiebobhnbajaa", sum := "72c55a42af9663bc69fc137bb474bbab38f3bddde481b9b770aee3ec2fc8a1d4", func := "ephemeris/ephemerislaw2.NetworkRounds", spec := "networkRounds", inPlace := ["(*sync.WaitGroup).Add", "internal/race.ReleaseMerge", "internal/race.Disable", "internal/race.Enable", "internal/synctest.IsInBubble", "internal/synctest.Associate[sync.WaitGroup]", "sync.fatal", "sync/atomic.OrUint64", "sync/atomic.AddUint64", "internal/race.Read", "sync/atomic.LoadUint64", "sync/atomic.StoreUint64", "internal/synctest.Disassociate[sync.WaitGroup]", "sync.runtime_Semrelease", "(*sync.WaitGroup).Done", "(*sync.WaitGroup).Wait", "internal/race.Acquire", "internal/synctest.IsAssociated[sync.WaitGroup]", "sync/atomic.CompareAndSwapUint64", "internal/race.Write", "sync.runtime_SemacquireWaitGroup"], unfollowed := true, recurses := true, leaving := true, apart := false }
def NetworkRoundsSaid : Prop := networkRoundsRow.holds Try.pinned (OpenSpec.ofChange networkRoundsSpec)

/-- ITS FALSE NEIGHBOUR: 'it returns false'. Refute it at one input. -/
def networkRoundsWrong : ChangeSpec := { name := "networkRounds", fn := fun _ => fun
  | [d1, d2, d3] => { results := [.lit (.bool false)], args := [d1, d2, d3] }
  | _ => none }
def NetworkRoundsWrongFalsely : Prop := networkRoundsRow.holds Try.pinned (OpenSpec.ofChange networkRoundsWrong)

/-- 'ephemerislaw2.GaugeFits': WHATEVER THE INPUT: true; the input reads as it did. -/
def gaugeFitsSpec : ChangeSpec := { name := "gaugeFits", fn := fun _ => fun
  | [d1, d2] => { results := [.lit (.bool true)], args := [d1, d2] }
  | _ => none }
def gaugeFitsRow : OpenClaim := { program := "ytjbiebobhnbajaa", sum := "72c55a42af9663bc69fc137bb474bbab38f3bddde481b9b770aee3ec2fc8a1d4", func := "ephemeris/ephemerislaw2.GaugeFits", spec := "gaugeFits", unfollowed := true, recurses := true, leaving := true, apart := false }
def GaugeFitsSaid : Prop := gaugeFitsRow.holds Try.pinned (OpenSpec.ofChange gaugeFitsSpec)

/-- ITS FALSE NEIGHBOUR: 'it returns false'. Refute it at one input. -/
def gaugeFitsWrong : ChangeSpec := { name := "gaugeFits", fn := fun _ => fun
  | [d1, d2] => { results := [.lit (.bool false)], args := [d1, d2] }
  | _ => none }
def GaugeFitsWrongFalsely : Prop := gaugeFitsRow.holds Try.pinned (OpenSpec.ofChange gaugeFitsWrong)

/-- 'ephemerislaw2.DisciplinePlays': WHATEVER THE INPUT: true; the input reads as it did. -/
def disciplinePlaysSpec : ChangeSpec := { name := "disciplinePlays", fn := fun _ => fun
  | [d1, d2, d3, d4, d5] => { results := [.lit (.bool true)], args := [d1, d2, d3, d4, d5] }
  | _ => none }
def disciplinePlaysRow : OpenClaim := { program := "ytjbiebobhnbajaa", sum := "72c55a42af9663bc69fc137bb474bbab38f3bddde481b9b770aee3ec2fc8a1d4", func := "ephemeris/ephemerislaw2.DisciplinePlays", spec := "disciplinePlays", apart := false }
def DisciplinePlaysSaid : Prop := disciplinePlaysRow.holds Try.pinned (OpenSpec.ofChange disciplinePlaysSpec)

/-- ITS FALSE NEIGHBOUR: 'it returns false'. Refute it at one input. -/
def disciplinePlaysWrong : ChangeSpec := { name := "disciplinePlays", fn := fun _ => fun
  | [d1, d2, d3, d4, d5] => { results := [.lit (.bool false)], args := [d1, d2, d3, d4, d5] }
  | _ => none }
def DisciplinePlaysWrongFalsely : Prop := disciplinePlaysRow.holds Try.pinned (OpenSpec.ofChange disciplinePlaysWrong)

/-- 'ephemerislaw2.ContradictChangeds': WHATEVER THE INPUT: true; the input reads as it did. -/
def contradictChangedsSpec : ChangeSpec := { name := "contradictChangeds", fn := fun _ => fun
  | [d1, d2, d3] => { results := [.lit (.bool true)], args := [d1, d2, d3] }
  | _ => none }
def contradictChangedsRow : OpenClaim := { program := "ytjbiebobhnbajaa", sum := "72c55a42af9663bc69fc137bb474bbab38f3bddde481b9b770aee3ec2fc8a1d4", func := "ephemeris/ephemerislaw2.ContradictChangeds", spec := "contradictChangeds", apart := false }
def ContradictChangedsSaid : Prop := contradictChangedsRow.holds Try.pinned (OpenSpec.ofChange contradictChangedsSpec)

/-- ITS FALSE NEIGHBOUR: 'it returns false'. Refute it at one input. -/
def contradictChangedsWrong : ChangeSpec := { name := "contradictChangeds", fn := fun _ => fun
  | [d1, d2, d3] => { results := [.lit (.bool false)], args := [d1, d2, d3] }
  | _ => none }
def ContradictChangedsWrongFalsely : Prop := contradictChangedsRow.holds Try.pinned (OpenSpec.ofChange contradictChangedsWrong)

/-- 'ephemerislaw2.ContradictImplieds': WHATEVER THE INPUT: true; the input reads as it did. -/
def contradictImpliedsSpec : ChangeSpec := { name := "contradictImplieds", fn := fun _ => fun
  | [d1, d2, d3] => { results := [.lit (.bool true)], args := [d1, d2, d3] }
  | _ => none }
def contradictImpliedsRow : OpenClaim := { program := "ytjbiebobhnbajaa", sum := "72c55a42af9663bc69fc137bb474bbab38f3bddde481b9b770aee3ec2fc8a1d4", func := "ephemeris/ephemerislaw2.ContradictImplieds", spec := "contradictImplieds", apart := false }
def ContradictImpliedsSaid : Prop := contradictImpliedsRow.holds Try.pinned (OpenSpec.ofChange contradictImpliedsSpec)

/-- ITS FALSE NEIGHBOUR: 'it returns false'. Refute it at one input. -/
def contradictImpliedsWrong : ChangeSpec := { name := "contradictImplieds", fn := fun _ => fun
  | [d1, d2, d3] => { results := [.lit (.bool false)], args := [d1, d2, d3] }
  | _ => none }
def ContradictImpliedsWrongFalsely : Prop := contradictImpliedsRow.holds Try.pinned (OpenSpec.ofChange contradictImpliedsWrong)

/- THE SECOND FORM. 'bulk': how many values and letters a reading holds, each counted each time it is reached (what is shared counts as often as it is met; a slice's spare places count too). A statement '..UptoSaid' is the law's where the arguments, and the package variables that the reading takes, are together of bulk at most 1048576: NARROWER than '..Said'. Prove '..Said' where nothing that the law and all that it calls make is longer than what came in: it says more and counts as full. Else prove '..UptoSaid'. A law counts once. -/
mutual
def uptoBulk {H : Type} : DataW H → Nat
  | .lit (.string bytes) => bytes.length + 1
  | .lit _ => 1
  | .nil => 1
  | .ptr d => uptoBulk d + 1
  | .slice elems spare => uptoBulkAll elems + uptoBulkAll spare + 1
  | .agg parts => uptoBulkAll parts + 1
  | .iface _ d => uptoBulk d + 1
  | .map entries => uptoBulkEntries entries + 1
  | .held _ => 1
def uptoBulkAll {H : Type} : List (DataW H) → Nat
  | [] => 0
  | d :: r => uptoBulk d + uptoBulkAll r
def uptoBulkEntries {H : Type} : List (Lit × DataW H) → Nat
  | [] => 0
  | x :: r => uptoBulkEntry x + uptoBulkEntries r
def uptoBulkEntry {H : Type} : Lit × DataW H → Nat
  | (.string bytes, d) => bytes.length + uptoBulk d + 1
  | (_, d) => uptoBulk d + 1
 end
def uptoSmall : (H : Type) → List (DataW H) → Bool := fun _ ds => decide (uptoBulkAll ds ≤ 1048576)
def OpenSpec.upto (s : _root_.Go.ChangeSpec) : _root_.Go.OpenSpec := { _root_.Go.OpenSpec.ofChange s with cond := some uptoSmall }

/-- 'ephemerislaw2.NetworkTights', WHERE WHAT IT READS IS OF BULK AT MOST 1048576: true; the input reads as it did. -/
def networkTightsUptoRow : OpenClaim := { program := "ytjbiebobhnbajaa", sum := "72c55a42af9663bc69fc137bb474bbab38f3bddde481b9b770aee3ec2fc8a1d4", func := "ephemeris/ephemerislaw2.NetworkTights", spec := "networkTights", inPlace := ["(*sync.WaitGroup).Add", "internal/race.ReleaseMerge", "internal/race.Disable", "internal/race.Enable", "internal/synctest.IsInBubble", "internal/synctest.Associate[sync.WaitGroup]", "sync.fatal", "sync/atomic.OrUint64", "sync/atomic.AddUint64", "internal/race.Read", "sync/atomic.LoadUint64", "sync/atomic.StoreUint64", "internal/synctest.Disassociate[sync.WaitGroup]", "sync.runtime_Semrelease", "(*sync.WaitGroup).Done", "(*sync.WaitGroup).Wait", "internal/race.Acquire", "internal/synctest.IsAssociated[sync.WaitGroup]", "sync/atomic.CompareAndSwapUint64", "internal/race.Write", "sync.runtime_SemacquireWaitGroup"], unfollowed := true, recurses := true, leaving := true, apart := false, narrowed := true }
def NetworkTightsUptoSaid : Prop := networkTightsUptoRow.holds Try.pinned (OpenSpec.upto networkTightsSpec)

/-- 'ephemerislaw2.NetworkRounds', WHERE WHAT IT READS IS OF BULK AT MOST 1048576: true; the input reads as it did. -/
def networkRoundsUptoRow : OpenClaim := { program := "ytjbiebobhnbajaa", sum := "72c55a42af9663bc69fc137bb474bbab38f3bddde481b9b770aee3ec2fc8a1d4", func := "ephemeris/ephemerislaw2.NetworkRounds", spec := "networkRounds", inPlace := ["(*sync.WaitGroup).Add", "internal/race.ReleaseMerge", "internal/race.Disable", "internal/race.Enable", "internal/synctest.IsInBubble", "internal/synctest.Associate[sync.WaitGroup]", "sync.fatal", "sync/atomic.OrUint64", "sync/atomic.AddUint64", "internal/race.Read", "sync/atomic.LoadUint64", "sync/atomic.StoreUint64", "internal/synctest.Disassociate[sync.WaitGroup]", "sync.runtime_Semrelease", "(*sync.WaitGroup).Done", "(*sync.WaitGroup).Wait", "internal/race.Acquire", "internal/synctest.IsAssociated[sync.WaitGroup]", "sync/atomic.CompareAndSwapUint64", "internal/race.Write", "sync.runtime_SemacquireWaitGroup"], unfollowed := true, recurses := true, leaving := true, apart := false, narrowed := true }
def NetworkRoundsUptoSaid : Prop := networkRoundsUptoRow.holds Try.pinned (OpenSpec.upto networkRoundsSpec)

/-- 'ephemerislaw2.GaugeFits', WHERE WHAT IT READS IS OF BULK AT MOST 1048576: true; the input reads as it did. -/
def gaugeFitsUptoRow : OpenClaim := { program := "ytjbiebobhnbajaa", sum := "72c55a42af9663bc69fc137bb474bbab38f3bddde481b9b770aee3ec2fc8a1d4", func := "ephemeris/ephemerislaw2.GaugeFits", spec := "gaugeFits", unfollowed := true, recurses := true, leaving := true, apart := false, narrowed := true }
def GaugeFitsUptoSaid : Prop := gaugeFitsUptoRow.holds Try.pinned (OpenSpec.upto gaugeFitsSpec)

/-- 'ephemerislaw2.DisciplinePlays', WHERE WHAT IT READS IS OF BULK AT MOST 1048576: true; the input reads as it did. -/
def disciplinePlaysUptoRow : OpenClaim := { program := "ytjbiebobhnbajaa", sum := "72c55a42af9663bc69fc137bb474bbab38f3bddde481b9b770aee3ec2fc8a1d4", func := "ephemeris/ephemerislaw2.DisciplinePlays", spec := "disciplinePlays", apart := false, narrowed := true }
def DisciplinePlaysUptoSaid : Prop := disciplinePlaysUptoRow.holds Try.pinned (OpenSpec.upto disciplinePlaysSpec)

/-- 'ephemerislaw2.ContradictChangeds', WHERE WHAT IT READS IS OF BULK AT MOST 1048576: true; the input reads as it did. -/
def contradictChangedsUptoRow : OpenClaim := { program := "ytjbiebobhnbajaa", sum := "72c55a42af9663bc69fc137bb474bbab38f3bddde481b9b770aee3ec2fc8a1d4", func := "ephemeris/ephemerislaw2.ContradictChangeds", spec := "contradictChangeds", apart := false, narrowed := true }
def ContradictChangedsUptoSaid : Prop := contradictChangedsUptoRow.holds Try.pinned (OpenSpec.upto contradictChangedsSpec)

/-- 'ephemerislaw2.ContradictImplieds', WHERE WHAT IT READS IS OF BULK AT MOST 1048576: true; the input reads as it did. -/
def contradictImpliedsUptoRow : OpenClaim := { program := "ytjbiebobhnbajaa", sum := "72c55a42af9663bc69fc137bb474bbab38f3bddde481b9b770aee3ec2fc8a1d4", func := "ephemeris/ephemerislaw2.ContradictImplieds", spec := "contradictImplieds", apart := false, narrowed := true }
def ContradictImpliedsUptoSaid : Prop := contradictImpliedsUptoRow.holds Try.pinned (OpenSpec.upto contradictImpliedsSpec)

end Rows
end Go.Proofs.Ytjbiebobhnbajaa
