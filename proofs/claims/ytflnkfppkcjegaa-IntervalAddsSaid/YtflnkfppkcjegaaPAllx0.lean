/- Written by a program of this session out of the translation. -/
import Derived.Test.YtflnkfppkcjegaaProg
import Derived.Below
import Derived.Deep.Draws
import Derived.Deep.AppendLies
import Derived.Maps.AppendAt
import Derived.OwnWalk
import Derived.Laws.BytesArg
import Derived.Laws.MakeOwn
import Derived.Laws.OwnMore
import Derived.Deep.OwnRows
import Derived.Tactics
import Derived.Lib.ConvBytes
import Derived.Laws.Slices
import Derived.WalkKit
import Derived.KernelRfl
import Derived.RowKit3
import Derived.Deep.LoopGhost
import Derived.Deep.QuietTactic
import Derived.BigQuiet
import Derived.WideLaws
import Derived.Deep.DeepCutAuto
import Derived.Deep.CutBlock
import Derived.Deep.RegionHeld3
import Derived.Laws.Rows
import Derived.Lib.AppendStr
import Derived.ArgAppend
import Derived.Laws.IdiomCopy
import Derived.OrdersHeld
import Derived.Laws.BitsLemmas
import Derived.RowKit
import Derived.Test.YtflnkfppkcjegaaWWords
import Derived.Test.YtflnkfppkcjegaaWLast
import Derived.Test.YtflnkfppkcjegaaWTab
import Derived.Test.YtflnkfppkcjegaaWFour
import Derived.Test.YtflnkfppkcjegaaWQPut
import Derived.Test.YtflnkfppkcjegaaWApart
import Derived.Test.YtflnkfppkcjegaaWArr
import Derived.Test.YtflnkfppkcjegaaWZeros
import Derived.Test.YtflnkfppkcjegaaWFoot
import Derived.Test.YtflnkfppkcjegaaWKept
import Derived.Test.YtflnkfppkcjegaaWShare
import Derived.Test.YtflnkfppkcjegaaWN
import Derived.Test.YtflnkfppkcjegaaWFootNe
import Derived.Test.YtflnkfppkcjegaaWAt
import Derived.Test.YtflnkfppkcjegaaWEqStruct
import Derived.Test.YtflnkfppkcjegaaWRepsOne
import Derived.Test.YtflnkfppkcjegaaWInv
import Derived.Test.YtflnkfppkcjegaaWInvWords
import Derived.Test.YtflnkfppkcjegaaWGuard
import Derived.Test.YtflnkfppkcjegaaWNEv
import Derived.Test.YtflnkfppkcjegaaWMore
import Derived.Test.YtflnkfppkcjegaaMore2
namespace Go.Proofs.Ytflnkfppkcjegaa.PAll
open Go.RowKit Go.Proofs.YtflnkfppkcjegaaW.PrintWords Go.Proofs.YtflnkfppkcjegaaW.PrintLast Go.Proofs.YtflnkfppkcjegaaW.PrintMore Go.Proofs.Ytflnkfppkcjegaa.More2
attribute [local go_sem] max2_int min2_int max_two min_two max_three min_three max_four min_four tdiv2e18_ tdiv1e18_ cellSS_  -- for this text's walks alone
set_option linter.unusedVariables false
set_option linter.unusedSimpArgs false



def errW : Option Int → Value
  | none => .nilIface
  | some c => .iface 0 (.int .i64 c)
theorem errW_none : errW none = .nilIface := rfl
theorem errW_some (c : Int) : errW (some c) = .iface 0 (.int .i64 c) := rfl

-- the values' own types

end Go.Proofs.Ytflnkfppkcjegaa.PAll
