-- PRINTED BY print.sh 35421559b90ae4d0a3588c463048766b98c2df88dd9212a6774a882060cdf62d: not written by this session
import Derived.Test.YtcmgfhfnfkelfaaPAgreeWithinsx0
import Derived.Test.YtcmgfhfnfkelfaaPAgreeWithinsx1
import Derived.Test.YtcmgfhfnfkelfaaPAgreeWithinsx2
import Derived.Test.YtcmgfhfnfkelfaaPAgreeWithinsx3
import Derived.Test.YtcmgfhfnfkelfaaPAgreeWithinsx4
import Derived.Test.YtcmgfhfnfkelfaaPAgreeWithinsx5
import Derived.Test.YtcmgfhfnfkelfaaPAgreeWithinsx6
namespace Go.Proofs.Ytcmgfhfnfkelfaa.PAgreeWithins
open Go.RowKit Go.Proofs.YtcmgfhfnfkelfaaW.PrintWords Go.Proofs.YtcmgfhfnfkelfaaW.PrintLast Go.Proofs.YtcmgfhfnfkelfaaW.PrintMore
attribute [local go_sem] max2_int min2_int max_two min_two max_three min_three max_four min_four   -- for this text's walks alone
set_option linter.unusedVariables false
set_option linter.unusedSimpArgs false

end Go.Proofs.Ytcmgfhfnfkelfaa.PAgreeWithins
