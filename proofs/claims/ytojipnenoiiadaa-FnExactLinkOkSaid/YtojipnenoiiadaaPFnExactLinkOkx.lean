-- Written by a program of this session (wip/xp): not trusted, Lean checks it.
import Derived.Test.YtojipnenoiiadaaPFnExactLinkOkx0
import Derived.Test.YtojipnenoiiadaaPFnExactLinkOkx1
import Derived.Test.YtojipnenoiiadaaPFnExactLinkOkx2
import Derived.Test.YtojipnenoiiadaaPFnExactLinkOkx3
import Derived.Test.YtojipnenoiiadaaPFnExactLinkOkx4
import Derived.Test.YtojipnenoiiadaaPFnExactLinkOkx5
import Derived.Test.YtojipnenoiiadaaPFnExactLinkOkx6
import Derived.Test.YtojipnenoiiadaaPFnExactLinkOkx7
namespace Go.Proofs.Ytojipnenoiiadaa.PFnExactLinkOk
open Go.RowKit Go.Proofs.YtojipnenoiiadaaW.PrintWords Go.Proofs.YtojipnenoiiadaaW.PrintLast Go.Proofs.YtojipnenoiiadaaW.PrintMore
attribute [local go_sem] max2_int min2_int max_two min_two max_three min_three max_four min_four   -- for this text's walks alone
set_option linter.unusedVariables false
set_option linter.unusedSimpArgs false

end Go.Proofs.Ytojipnenoiiadaa.PFnExactLinkOk
