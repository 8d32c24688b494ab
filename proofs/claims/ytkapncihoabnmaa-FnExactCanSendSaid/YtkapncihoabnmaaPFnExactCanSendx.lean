-- Written by a program of this session (wip/xp): not trusted, Lean checks it.
import Derived.Test.YtkapncihoabnmaaPFnExactCanSendx0
import Derived.Test.YtkapncihoabnmaaPFnExactCanSendx1
import Derived.Test.YtkapncihoabnmaaPFnExactCanSendx2
import Derived.Test.YtkapncihoabnmaaPFnExactCanSendx3
import Derived.Test.YtkapncihoabnmaaPFnExactCanSendx4
import Derived.Test.YtkapncihoabnmaaPFnExactCanSendx5
import Derived.Test.YtkapncihoabnmaaPFnExactCanSendx6
import Derived.Test.YtkapncihoabnmaaPFnExactCanSendx7
import Derived.Test.YtkapncihoabnmaaPFnExactCanSendx8
import Derived.Test.YtkapncihoabnmaaPFnExactCanSendx9
import Derived.Test.YtkapncihoabnmaaPFnExactCanSendx10
namespace Go.Proofs.Ytkapncihoabnmaa.PFnExactCanSend
open Go.RowKit Go.Proofs.YtkapncihoabnmaaW.PrintWords Go.Proofs.YtkapncihoabnmaaW.PrintLast Go.Proofs.YtkapncihoabnmaaW.PrintMore
attribute [local go_sem] max2_int min2_int max_two min_two max_three min_three max_four min_four   -- for this text's walks alone
set_option linter.unusedVariables false
set_option linter.unusedSimpArgs false

end Go.Proofs.Ytkapncihoabnmaa.PFnExactCanSend
