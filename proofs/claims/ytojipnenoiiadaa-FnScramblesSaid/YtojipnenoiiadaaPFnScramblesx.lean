-- Written by a program of this session (wip/xp): not trusted, Lean checks it.
import Derived.Test.YtojipnenoiiadaaPFnScramblesx0
import Derived.Test.YtojipnenoiiadaaPFnScramblesx1
import Derived.Test.YtojipnenoiiadaaPFnScramblesx2
import Derived.Test.YtojipnenoiiadaaPFnScramblesx3
import Derived.Test.YtojipnenoiiadaaPFnScramblesx4
import Derived.Test.YtojipnenoiiadaaPFnScramblesx5
import Derived.Test.YtojipnenoiiadaaPFnScramblesx6
import Derived.Test.YtojipnenoiiadaaPFnScramblesx7
namespace Go.Proofs.Ytojipnenoiiadaa.PFnScrambles
open Go.RowKit Go.Proofs.YtojipnenoiiadaaW.PrintWords Go.Proofs.YtojipnenoiiadaaW.PrintLast Go.Proofs.YtojipnenoiiadaaW.PrintMore
attribute [local go_sem] max2_int min2_int max_two min_two max_three min_three max_four min_four   -- for this text's walks alone
set_option linter.unusedVariables false
set_option linter.unusedSimpArgs false

end Go.Proofs.Ytojipnenoiiadaa.PFnScrambles
