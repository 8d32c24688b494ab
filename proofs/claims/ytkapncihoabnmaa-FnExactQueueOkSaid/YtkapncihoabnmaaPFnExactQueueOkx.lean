-- Written by a program of this session (wip/xp): not trusted, Lean checks it.
import Derived.Test.YtkapncihoabnmaaPFnExactQueueOkx0
import Derived.Test.YtkapncihoabnmaaPFnExactQueueOkx1
import Derived.Test.YtkapncihoabnmaaPFnExactQueueOkx2
import Derived.Test.YtkapncihoabnmaaPFnExactQueueOkx3
import Derived.Test.YtkapncihoabnmaaPFnExactQueueOkx4
import Derived.Test.YtkapncihoabnmaaPFnExactQueueOkx5
import Derived.Test.YtkapncihoabnmaaPFnExactQueueOkx6
import Derived.Test.YtkapncihoabnmaaPFnExactQueueOkx7
import Derived.Test.YtkapncihoabnmaaPFnExactQueueOkx8
import Derived.Test.YtkapncihoabnmaaPFnExactQueueOkx9
import Derived.Test.YtkapncihoabnmaaPFnExactQueueOkx10
namespace Go.Proofs.Ytkapncihoabnmaa.PFnExactQueueOk
open Go.RowKit Go.Proofs.YtkapncihoabnmaaW.PrintWords Go.Proofs.YtkapncihoabnmaaW.PrintLast Go.Proofs.YtkapncihoabnmaaW.PrintMore
attribute [local go_sem] max2_int min2_int max_two min_two max_three min_three max_four min_four   -- for this text's walks alone
set_option linter.unusedVariables false
set_option linter.unusedSimpArgs false

end Go.Proofs.Ytkapncihoabnmaa.PFnExactQueueOk
