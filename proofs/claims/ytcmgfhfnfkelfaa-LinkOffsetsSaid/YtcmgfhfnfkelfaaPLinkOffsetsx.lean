/- Written by a program of this session out of the translation. -/
import Derived.Test.YtcmgfhfnfkelfaaPLinkOffsetsx0
import Derived.Test.YtcmgfhfnfkelfaaPLinkOffsetsx1
import Derived.Test.YtcmgfhfnfkelfaaPLinkOffsetsx2
import Derived.Test.YtcmgfhfnfkelfaaPLinkOffsetsx3
import Derived.Test.YtcmgfhfnfkelfaaPLinkOffsetsx4
namespace Go.Proofs.Ytcmgfhfnfkelfaa.PLinkOffsets
open Go.RowKit Go.Proofs.YtcmgfhfnfkelfaaW.PrintWords Go.Proofs.YtcmgfhfnfkelfaaW.PrintLast Go.Proofs.YtcmgfhfnfkelfaaW.PrintMore Go.Proofs.Ytcmgfhfnfkelfaa.More2
attribute [local go_sem] max2_int min2_int max_two min_two max_three min_three max_four min_four tdiv2e18_ tdiv1e18_  -- for this text's walks alone
set_option linter.unusedVariables false
set_option linter.unusedSimpArgs false

end Go.Proofs.Ytcmgfhfnfkelfaa.PLinkOffsets
