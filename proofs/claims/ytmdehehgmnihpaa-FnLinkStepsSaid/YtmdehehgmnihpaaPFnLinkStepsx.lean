-- Written by a program of this session (wip/xp): not trusted, Lean checks it.
import Derived.Test.YtmdehehgmnihpaaPFnLinkStepsx0
import Derived.Test.YtmdehehgmnihpaaPFnLinkStepsx1
import Derived.Test.YtmdehehgmnihpaaPFnLinkStepsx2
import Derived.Test.YtmdehehgmnihpaaPFnLinkStepsx3
import Derived.Test.YtmdehehgmnihpaaPFnLinkStepsx4
import Derived.Test.YtmdehehgmnihpaaPFnLinkStepsx5
import Derived.Test.YtmdehehgmnihpaaPFnLinkStepsx6
import Derived.Test.YtmdehehgmnihpaaPFnLinkStepsx7
import Derived.Test.YtmdehehgmnihpaaPFnLinkStepsx8
import Derived.Test.YtmdehehgmnihpaaPFnLinkStepsx9
import Derived.Test.YtmdehehgmnihpaaPFnLinkStepsx10
import Derived.Test.YtmdehehgmnihpaaPFnLinkStepsx11
import Derived.Test.YtmdehehgmnihpaaPFnLinkStepsx12
import Derived.Test.YtmdehehgmnihpaaPFnLinkStepsx13
import Derived.Test.YtmdehehgmnihpaaPFnLinkStepsx14
import Derived.Test.YtmdehehgmnihpaaPFnLinkStepsx15
import Derived.Test.YtmdehehgmnihpaaPFnLinkStepsx16
namespace Go.Proofs.Ytmdehehgmnihpaa.PFnLinkSteps
open Go.RowKit Go.Proofs.YtmdehehgmnihpaaW.PrintWords Go.Proofs.YtmdehehgmnihpaaW.PrintLast Go.Proofs.YtmdehehgmnihpaaW.PrintMore
attribute [local go_sem] max2_int min2_int max_two min_two max_three min_three max_four min_four   -- for this text's walks alone
set_option linter.unusedVariables false
set_option linter.unusedSimpArgs false

end Go.Proofs.Ytmdehehgmnihpaa.PFnLinkSteps
