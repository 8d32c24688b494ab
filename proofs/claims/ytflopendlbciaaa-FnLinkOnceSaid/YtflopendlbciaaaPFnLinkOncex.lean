-- Written by a program of this session (wip/xp): not trusted, Lean checks it.
import Derived.Test.YtflopendlbciaaaPFnLinkOncex0
import Derived.Test.YtflopendlbciaaaPFnLinkOncex1
import Derived.Test.YtflopendlbciaaaPFnLinkOncex2
import Derived.Test.YtflopendlbciaaaPFnLinkOncex3
import Derived.Test.YtflopendlbciaaaPFnLinkOncex4
import Derived.Test.YtflopendlbciaaaPFnLinkOncex5
import Derived.Test.YtflopendlbciaaaPFnLinkOncex6
import Derived.Test.YtflopendlbciaaaPFnLinkOncex7
import Derived.Test.YtflopendlbciaaaPFnLinkOncex8
import Derived.Test.YtflopendlbciaaaPFnLinkOncex9
import Derived.Test.YtflopendlbciaaaPFnLinkOncex10
import Derived.Test.YtflopendlbciaaaPFnLinkOncex11
import Derived.Test.YtflopendlbciaaaPFnLinkOncex12
import Derived.Test.YtflopendlbciaaaPFnLinkOncex13
import Derived.Test.YtflopendlbciaaaPFnLinkOncex14
import Derived.Test.YtflopendlbciaaaPFnLinkOncex15
namespace Go.Proofs.Ytflopendlbciaaa.PFnLinkOnce
open Go.RowKit Go.Proofs.YtflopendlbciaaaW.PrintWords Go.Proofs.YtflopendlbciaaaW.PrintLast Go.Proofs.YtflopendlbciaaaW.PrintMore
attribute [local go_sem] max2_int min2_int max_two min_two max_three min_three max_four min_four   -- for this text's walks alone
set_option linter.unusedVariables false
set_option linter.unusedSimpArgs false

end Go.Proofs.Ytflopendlbciaaa.PFnLinkOnce
