-- Written by a program of this session (wip/xp): not trusted, Lean checks it.
import Derived.Test.YtkncnleibofkbaaProg
import Derived.Below
import Derived.Deep.Draws
import Derived.Deep.AppendLies
import Derived.Maps.AppendAt
import Derived.OwnWalk
import Derived.Laws.BytesArg
import Derived.Laws.MakeOwn
import Derived.Laws.OwnMore
import Derived.Deep.OwnRows
import Derived.Tactics
import Derived.Lib.ConvBytes
import Derived.Laws.Slices
import Derived.WalkKit
import Derived.KernelRfl
import Derived.RowKit3
import Derived.Deep.LoopGhost
import Derived.Deep.QuietTactic
import Derived.BigQuiet
import Derived.WideLaws
import Derived.Deep.DeepCutAuto
import Derived.Deep.CutBlock
import Derived.Deep.RegionHeld3
import Derived.Laws.Rows
import Derived.Lib.AppendStr
import Derived.ArgAppend
import Derived.Laws.IdiomCopy
import Derived.OrdersHeld
import Derived.Laws.BitsLemmas
import Derived.RowKit
import Derived.Test.YtkncnleibofkbaaWWords
import Derived.Test.YtkncnleibofkbaaWLast
import Derived.Test.YtkncnleibofkbaaWTab
import Derived.Test.YtkncnleibofkbaaWFour
import Derived.Test.YtkncnleibofkbaaWQPut
import Derived.Test.YtkncnleibofkbaaWApart
import Derived.Test.YtkncnleibofkbaaWArr
import Derived.Test.YtkncnleibofkbaaWZeros
import Derived.Test.YtkncnleibofkbaaWFoot
import Derived.Test.YtkncnleibofkbaaWKept
import Derived.Test.YtkncnleibofkbaaWShare
import Derived.Test.YtkncnleibofkbaaWN
import Derived.Test.YtkncnleibofkbaaWFootNe
import Derived.Test.YtkncnleibofkbaaWAt
import Derived.Test.YtkncnleibofkbaaWEqStruct
import Derived.Test.YtkncnleibofkbaaWRepsOne
import Derived.Test.YtkncnleibofkbaaWInv
import Derived.Test.YtkncnleibofkbaaWInvWords
import Derived.Test.YtkncnleibofkbaaWGuard
import Derived.Test.YtkncnleibofkbaaWNEv
import Derived.Test.YtkncnleibofkbaaWMore
namespace Go.Proofs.Ytkncnleibofkbaa.PFnExactStateName
open Go.RowKit Go.Proofs.YtkncnleibofkbaaW.PrintWords Go.Proofs.YtkncnleibofkbaaW.PrintLast Go.Proofs.YtkncnleibofkbaaW.PrintMore
attribute [local go_sem] max2_int min2_int max_two min_two max_three min_three max_four min_four   -- for this text's walks alone
set_option linter.unusedVariables false
set_option linter.unusedSimpArgs false



def errW : Option Int → Value
  | none => .nilIface
  | some c => .iface 0 (.int .i64 c)
theorem errW_none : errW none = .nilIface := rfl
theorem errW_some (c : Int) : errW (some c) = .iface 0 (.int .i64 c) := rfl

theorem info9 : (Try.prog.info? 9).map (fun i => (i.zero, i.size, i.bytes)) = some (some (.string ⟨#[]⟩), 1, 16) := by kernel_rfl
-- the values' own types

end Go.Proofs.Ytkncnleibofkbaa.PFnExactStateName
