-- Written by a program of this session (wip/xp): not trusted, Lean checks it.
import Derived.Test.YtkapncihoabnmaaPFnExactHeldOfx0
import Derived.Test.YtkapncihoabnmaaPFnExactHeldOfx1
import Derived.Test.YtkapncihoabnmaaPFnExactHeldOfx2
import Derived.Test.YtkapncihoabnmaaPFnExactHeldOfx3
import Derived.Test.YtkapncihoabnmaaPFnExactHeldOfx4
import Derived.Test.YtkapncihoabnmaaPFnExactHeldOfx5
import Derived.Test.YtkapncihoabnmaaPFnExactHeldOfx6
import Derived.Test.YtkapncihoabnmaaPFnExactHeldOfx7
import Derived.Test.YtkapncihoabnmaaPFnExactHeldOfx8
namespace Go.Proofs.Ytkapncihoabnmaa.PFnExactHeldOf
open Go.RowKit Go.Proofs.YtkapncihoabnmaaW.PrintWords Go.Proofs.YtkapncihoabnmaaW.PrintLast Go.Proofs.YtkapncihoabnmaaW.PrintMore
attribute [local go_sem] max2_int min2_int max_two min_two max_three min_three max_four min_four   -- for this text's walks alone
set_option linter.unusedVariables false
set_option linter.unusedSimpArgs false

end Go.Proofs.Ytkapncihoabnmaa.PFnExactHeldOf
