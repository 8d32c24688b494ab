-- Written by a program of this session (wip/xp): not trusted, Lean checks it.
import Derived.Test.YtkapncihoabnmaaPFnExactMayPassx0
import Derived.Test.YtkapncihoabnmaaPFnExactMayPassx1
import Derived.Test.YtkapncihoabnmaaPFnExactMayPassx2
import Derived.Test.YtkapncihoabnmaaPFnExactMayPassx3
import Derived.Test.YtkapncihoabnmaaPFnExactMayPassx4
import Derived.Test.YtkapncihoabnmaaPFnExactMayPassx5
import Derived.Test.YtkapncihoabnmaaPFnExactMayPassx6
import Derived.Test.YtkapncihoabnmaaPFnExactMayPassx7
namespace Go.Proofs.Ytkapncihoabnmaa.PFnExactMayPass
open Go.RowKit Go.Proofs.YtkapncihoabnmaaW.PrintWords Go.Proofs.YtkapncihoabnmaaW.PrintLast Go.Proofs.YtkapncihoabnmaaW.PrintMore
attribute [local go_sem] max2_int min2_int max_two min_two max_three min_three max_four min_four   -- for this text's walks alone
set_option linter.unusedVariables false
set_option linter.unusedSimpArgs false

end Go.Proofs.Ytkapncihoabnmaa.PFnExactMayPass
