-- Written by a program of this session (wip/xp): not trusted, Lean checks it.
import Derived.Test.YtmdehehgmnihpaaGreatPFnExactLinkStepx0
import Derived.Test.YtmdehehgmnihpaaGreatPFnExactLinkStepx1
import Derived.Test.YtmdehehgmnihpaaGreatPFnExactLinkStepx2
import Derived.Test.YtmdehehgmnihpaaGreatPFnExactLinkStepx3
import Derived.Test.YtmdehehgmnihpaaGreatPFnExactLinkStepx4
import Derived.Test.YtmdehehgmnihpaaGreatPFnExactLinkStepx5
import Derived.Test.YtmdehehgmnihpaaGreatPFnExactLinkStepx6
import Derived.Test.YtmdehehgmnihpaaGreatPFnExactLinkStepx7
import Derived.Test.YtmdehehgmnihpaaGreatPFnExactLinkStepx8
import Derived.Test.YtmdehehgmnihpaaGreatPFnExactLinkStepx9
namespace Go.Proofs.YtmdehehgmnihpaaGreat.PFnExactLinkStep
open Go.RowKit Go.Proofs.YtmdehehgmnihpaaGreatW.PrintWords Go.Proofs.YtmdehehgmnihpaaGreatW.PrintLast Go.Proofs.YtmdehehgmnihpaaGreatW.PrintMore
attribute [local go_sem] dM dL eu ek dn dm dJ dK   -- for this text's walks alone
set_option linter.unusedVariables false
set_option linter.unusedSimpArgs false

end Go.Proofs.YtmdehehgmnihpaaGreat.PFnExactLinkStep
