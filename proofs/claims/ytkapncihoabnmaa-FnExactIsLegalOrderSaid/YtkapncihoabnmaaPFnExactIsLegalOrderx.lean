-- Written by a program of this session (wip/xp): not trusted, Lean checks it.
import Derived.Test.YtkapncihoabnmaaPFnExactIsLegalOrderx0
import Derived.Test.YtkapncihoabnmaaPFnExactIsLegalOrderx1
import Derived.Test.YtkapncihoabnmaaPFnExactIsLegalOrderx2
import Derived.Test.YtkapncihoabnmaaPFnExactIsLegalOrderx3
import Derived.Test.YtkapncihoabnmaaPFnExactIsLegalOrderx4
import Derived.Test.YtkapncihoabnmaaPFnExactIsLegalOrderx5
import Derived.Test.YtkapncihoabnmaaPFnExactIsLegalOrderx6
import Derived.Test.YtkapncihoabnmaaPFnExactIsLegalOrderx7
import Derived.Test.YtkapncihoabnmaaPFnExactIsLegalOrderx8
import Derived.Test.YtkapncihoabnmaaPFnExactIsLegalOrderx9
import Derived.Test.YtkapncihoabnmaaPFnExactIsLegalOrderx10
import Derived.Test.YtkapncihoabnmaaPFnExactIsLegalOrderx11
namespace Go.Proofs.Ytkapncihoabnmaa.PFnExactIsLegalOrder
open Go.RowKit Go.Proofs.YtkapncihoabnmaaW.PrintWords Go.Proofs.YtkapncihoabnmaaW.PrintLast Go.Proofs.YtkapncihoabnmaaW.PrintMore
attribute [local go_sem] max2_int min2_int max_two min_two max_three min_three max_four min_four   -- for this text's walks alone
set_option linter.unusedVariables false
set_option linter.unusedSimpArgs false

end Go.Proofs.Ytkapncihoabnmaa.PFnExactIsLegalOrder
