-- Written by a program of this session (wip/xp): not trusted, Lean checks it.
import Derived.Test.YtkapncihoabnmaaPFnExactMustPassx0
import Derived.Test.YtkapncihoabnmaaPFnExactMustPassx1
import Derived.Test.YtkapncihoabnmaaPFnExactMustPassx2
import Derived.Test.YtkapncihoabnmaaPFnExactMustPassx3
import Derived.Test.YtkapncihoabnmaaPFnExactMustPassx4
import Derived.Test.YtkapncihoabnmaaPFnExactMustPassx5
import Derived.Test.YtkapncihoabnmaaPFnExactMustPassx6
import Derived.Test.YtkapncihoabnmaaPFnExactMustPassx7
import Derived.Test.YtkapncihoabnmaaPFnExactMustPassx8
namespace Go.Proofs.Ytkapncihoabnmaa.PFnExactMustPass
open Go.RowKit Go.Proofs.YtkapncihoabnmaaW.PrintWords Go.Proofs.YtkapncihoabnmaaW.PrintLast Go.Proofs.YtkapncihoabnmaaW.PrintMore
attribute [local go_sem] max2_int min2_int max_two min_two max_three min_three max_four min_four   -- for this text's walks alone
set_option linter.unusedVariables false
set_option linter.unusedSimpArgs false

end Go.Proofs.Ytkapncihoabnmaa.PFnExactMustPass
