-- Written by a program of this session (wip/xp): not trusted, Lean checks it.
import Derived.Test.YtbmhdlgpglbdnaaProg
import Derived.Below
import Derived.Deep.Draws
import Derived.Deep.AppendLies
import Derived.Maps.AppendAt
import Derived.OwnWalk
import Derived.Laws.BytesArg
import Derived.Laws.MakeOwn
import Derived.Laws.OwnMore
import Derived.Deep.OwnRows
import Derived.Tactics
import Derived.Lib.ConvBytes
import Derived.Laws.Slices
import Derived.WalkKit
import Derived.KernelRfl
import Derived.RowKit3
import Derived.Deep.LoopGhost
import Derived.Deep.QuietTactic
import Derived.BigQuiet
import Derived.WideLaws
import Derived.Deep.DeepCutAuto
import Derived.Deep.CutBlock
import Derived.Deep.RegionHeld3
import Derived.Laws.Rows
import Derived.Lib.AppendStr
import Derived.ArgAppend
import Derived.Laws.IdiomCopy
import Derived.OrdersHeld
import Derived.Laws.BitsLemmas
import Derived.RowKit
import Derived.Test.YtbmhdlgpglbdnaaWWords
import Derived.Test.YtbmhdlgpglbdnaaWLast
import Derived.Test.YtbmhdlgpglbdnaaWTab
import Derived.Test.YtbmhdlgpglbdnaaWFour
import Derived.Test.YtbmhdlgpglbdnaaWQPut
import Derived.Test.YtbmhdlgpglbdnaaWApart
import Derived.Test.YtbmhdlgpglbdnaaWArr
import Derived.Test.YtbmhdlgpglbdnaaWZeros
import Derived.Test.YtbmhdlgpglbdnaaWFoot
import Derived.Test.YtbmhdlgpglbdnaaWKept
import Derived.Test.YtbmhdlgpglbdnaaWShare
import Derived.Test.YtbmhdlgpglbdnaaWN
import Derived.Test.YtbmhdlgpglbdnaaWFootNe
import Derived.Test.YtbmhdlgpglbdnaaWAt
import Derived.Test.YtbmhdlgpglbdnaaWEqStruct
import Derived.Test.YtbmhdlgpglbdnaaWRepsOne
import Derived.Test.YtbmhdlgpglbdnaaWInv
import Derived.Test.YtbmhdlgpglbdnaaWInvWords
import Derived.Test.YtbmhdlgpglbdnaaWGuard
import Derived.Test.YtbmhdlgpglbdnaaWNEv
import Derived.Test.YtbmhdlgpglbdnaaWMore
namespace Go.Proofs.Ytbmhdlgpglbdnaa.PFnExactTakeWire
open Go.RowKit Go.Proofs.YtbmhdlgpglbdnaaW.PrintWords Go.Proofs.YtbmhdlgpglbdnaaW.PrintLast Go.Proofs.YtbmhdlgpglbdnaaW.PrintMore
attribute [local go_sem] max2_int min2_int max_two min_two max_three min_three max_four min_four   -- for this text's walks alone
set_option linter.unusedVariables false
set_option linter.unusedSimpArgs false



def errW : Option Int → Value
  | none => .nilIface
  | some c => .iface 0 (.int .i64 c)
theorem errW_none : errW none = .nilIface := rfl
theorem errW_some (c : Int) : errW (some c) = .iface 0 (.int .i64 c) := rfl

theorem info3 : (Try.prog.info? 3).map (fun i => (i.zero, i.size, i.bytes)) = some (some (.int .i64 0), 1, 8) := by kernel_rfl
-- the values' own types

end Go.Proofs.Ytbmhdlgpglbdnaa.PFnExactTakeWire
