/-
  No cell of these rows narrows 'for every input' (looked for: loops, veiled, ifaces, maps, wideKeys, modest, calm, conditions, laid).
  DERIVED. THE GIVEN ROWS OF THIS SEAT. 12 by the template 'for every input the law returns true; each argument reads behind the call as it read before'; 0 by the template 'total and deterministic' (their statements: YtbmhdlgpglbdnaaTotals.lean).
  GIVEN WITH THE SEED: the statements are not yours to turn. If you find one false, say at which input.
  Laid BY PROGRAM, IN A SANDBOX (cutbox-rows.mjs): the forced cells as the released guide's own fill.sh prints them over the translation e7eb7db4462a868b… (all of the seat's roots in one cut). By AI agents, Wed Nov 11 2026. No macro, syntax, notation, axiom, sorry.
-/
import Derived.Test.YtbmhdlgpglbdnaaChecked
import GoSem.Claim
import GoSem.ClaimJoined
import GoSem.ClaimMapViews
import Derived.JoinedTies
import Derived.KernelRfl
namespace Go.Proofs.Ytbmhdlgpglbdnaa
/- THE CELL 'sum', in the pinned program and in every row, IS THE sha256 OF THE DUMP (.gsa) THAT YtbmhdlgpglbdnaaProg.lean LOADS. Nothing in Lean hashes anything: it is a label: what it is worth is what the hold of that sum in a sandbox is worth. -/
noncomputable def Try.pinned : Pinned := { name := "ytbmhdlgpglbdnaa", sum := "e7eb7db4462a868b8f977908b7b978edf62f514eaa3fc9e4a6eb966d1ca367bc", checked := Try.checked }
namespace Rows
def none {H : Type} : Left H := { results := [], args := [] }

/-- 'laws.FnExactStripeBytes': WHATEVER THE INPUT: true; the input reads as it did. -/
def fnExactStripeBytesSpec : ChangeSpec := { name := "fnExactStripeBytes", fn := fun _ => fun
  | [d1, d2] => { results := [.lit (.bool true)], args := [d1, d2] }
  | _ => none }
def fnExactStripeBytesRow : OpenClaim := { program := "ytbmhdlgpglbdnaa", sum := "e7eb7db4462a868b8f977908b7b978edf62f514eaa3fc9e4a6eb966d1ca367bc", func := "loop.example/g00986/laws.FnExactStripeBytes", spec := "fnExactStripeBytes", unfollowed := true, recurses := true, apart := false }
def FnExactStripeBytesSaid : Prop := fnExactStripeBytesRow.holds Try.pinned (OpenSpec.ofChange fnExactStripeBytesSpec)

/-- ITS FALSE NEIGHBOUR: 'it returns false'. Refute it at one input. -/
def fnExactStripeBytesWrong : ChangeSpec := { name := "fnExactStripeBytes", fn := fun _ => fun
  | [d1, d2] => { results := [.lit (.bool false)], args := [d1, d2] }
  | _ => none }
def FnExactStripeBytesWrongFalsely : Prop := fnExactStripeBytesRow.holds Try.pinned (OpenSpec.ofChange fnExactStripeBytesWrong)

/-- 'laws.FnExactReceiverOk': WHATEVER THE INPUT: true; the input reads as it did. -/
def fnExactReceiverOkSpec : ChangeSpec := { name := "fnExactReceiverOk", fn := fun _ => fun
  | [d] => { results := [.lit (.bool true)], args := [d] }
  | _ => none }
def fnExactReceiverOkRow : OpenClaim := { program := "ytbmhdlgpglbdnaa", sum := "e7eb7db4462a868b8f977908b7b978edf62f514eaa3fc9e4a6eb966d1ca367bc", func := "loop.example/g00986/laws.FnExactReceiverOk", spec := "fnExactReceiverOk", unfollowed := true, recurses := true, apart := false }
def FnExactReceiverOkSaid : Prop := fnExactReceiverOkRow.holds Try.pinned (OpenSpec.ofChange fnExactReceiverOkSpec)

/-- ITS FALSE NEIGHBOUR: 'it returns false'. Refute it at one input. -/
def fnExactReceiverOkWrong : ChangeSpec := { name := "fnExactReceiverOk", fn := fun _ => fun
  | [d] => { results := [.lit (.bool false)], args := [d] }
  | _ => none }
def FnExactReceiverOkWrongFalsely : Prop := fnExactReceiverOkRow.holds Try.pinned (OpenSpec.ofChange fnExactReceiverOkWrong)

/-- 'laws.FnExactReverseLanes': WHATEVER THE INPUT: true; the input reads as it did. -/
def fnExactReverseLanesSpec : ChangeSpec := { name := "fnExactReverseLanes", fn := fun _ => fun
  | [d] => { results := [.lit (.bool true)], args := [d] }
  | _ => none }
def fnExactReverseLanesRow : OpenClaim := { program := "ytbmhdlgpglbdnaa", sum := "e7eb7db4462a868b8f977908b7b978edf62f514eaa3fc9e4a6eb966d1ca367bc", func := "loop.example/g00986/laws.FnExactReverseLanes", spec := "fnExactReverseLanes", apart := false }
def FnExactReverseLanesSaid : Prop := fnExactReverseLanesRow.holds Try.pinned (OpenSpec.ofChange fnExactReverseLanesSpec)

/-- ITS FALSE NEIGHBOUR: 'it returns false'. Refute it at one input. -/
def fnExactReverseLanesWrong : ChangeSpec := { name := "fnExactReverseLanes", fn := fun _ => fun
  | [d] => { results := [.lit (.bool false)], args := [d] }
  | _ => none }
def FnExactReverseLanesWrongFalsely : Prop := fnExactReverseLanesRow.holds Try.pinned (OpenSpec.ofChange fnExactReverseLanesWrong)

/-- 'laws.FnExactSkewLanes': WHATEVER THE INPUT: true; the input reads as it did. -/
def fnExactSkewLanesSpec : ChangeSpec := { name := "fnExactSkewLanes", fn := fun _ => fun
  | [d1, d2] => { results := [.lit (.bool true)], args := [d1, d2] }
  | _ => none }
def fnExactSkewLanesRow : OpenClaim := { program := "ytbmhdlgpglbdnaa", sum := "e7eb7db4462a868b8f977908b7b978edf62f514eaa3fc9e4a6eb966d1ca367bc", func := "loop.example/g00986/laws.FnExactSkewLanes", spec := "fnExactSkewLanes", unfollowed := true, recurses := true, apart := false }
def FnExactSkewLanesSaid : Prop := fnExactSkewLanesRow.holds Try.pinned (OpenSpec.ofChange fnExactSkewLanesSpec)

/-- ITS FALSE NEIGHBOUR: 'it returns false'. Refute it at one input. -/
def fnExactSkewLanesWrong : ChangeSpec := { name := "fnExactSkewLanes", fn := fun _ => fun
  | [d1, d2] => { results := [.lit (.bool false)], args := [d1, d2] }
  | _ => none }
def FnExactSkewLanesWrongFalsely : Prop := fnExactSkewLanesRow.holds Try.pinned (OpenSpec.ofChange fnExactSkewLanesWrong)

/-- 'laws.FnExactAckOf': WHATEVER THE INPUT: true; the input reads as it did. -/
def fnExactAckOfSpec : ChangeSpec := { name := "fnExactAckOf", fn := fun _ => fun
  | [d] => { results := [.lit (.bool true)], args := [d] }
  | _ => none }
def fnExactAckOfRow : OpenClaim := { program := "ytbmhdlgpglbdnaa", sum := "e7eb7db4462a868b8f977908b7b978edf62f514eaa3fc9e4a6eb966d1ca367bc", func := "loop.example/g00986/laws.FnExactAckOf", spec := "fnExactAckOf", unfollowed := true, recurses := true, apart := false }
def FnExactAckOfSaid : Prop := fnExactAckOfRow.holds Try.pinned (OpenSpec.ofChange fnExactAckOfSpec)

/-- ITS FALSE NEIGHBOUR: 'it returns false'. Refute it at one input. -/
def fnExactAckOfWrong : ChangeSpec := { name := "fnExactAckOf", fn := fun _ => fun
  | [d] => { results := [.lit (.bool false)], args := [d] }
  | _ => none }
def FnExactAckOfWrongFalsely : Prop := fnExactAckOfRow.holds Try.pinned (OpenSpec.ofChange fnExactAckOfWrong)

/-- 'laws.FnExactScrambleBytes': WHATEVER THE INPUT: true; the input reads as it did. -/
def fnExactScrambleBytesSpec : ChangeSpec := { name := "fnExactScrambleBytes", fn := fun _ => fun
  | [d1, d2] => { results := [.lit (.bool true)], args := [d1, d2] }
  | _ => none }
def fnExactScrambleBytesRow : OpenClaim := { program := "ytbmhdlgpglbdnaa", sum := "e7eb7db4462a868b8f977908b7b978edf62f514eaa3fc9e4a6eb966d1ca367bc", func := "loop.example/g00986/laws.FnExactScrambleBytes", spec := "fnExactScrambleBytes", unfollowed := true, recurses := true, apart := false }
def FnExactScrambleBytesSaid : Prop := fnExactScrambleBytesRow.holds Try.pinned (OpenSpec.ofChange fnExactScrambleBytesSpec)

/-- ITS FALSE NEIGHBOUR: 'it returns false'. Refute it at one input. -/
def fnExactScrambleBytesWrong : ChangeSpec := { name := "fnExactScrambleBytes", fn := fun _ => fun
  | [d1, d2] => { results := [.lit (.bool false)], args := [d1, d2] }
  | _ => none }
def FnExactScrambleBytesWrongFalsely : Prop := fnExactScrambleBytesRow.holds Try.pinned (OpenSpec.ofChange fnExactScrambleBytesWrong)

/-- 'laws.FnExactAlignLanes': WHATEVER THE INPUT: true; the input reads as it did. -/
def fnExactAlignLanesSpec : ChangeSpec := { name := "fnExactAlignLanes", fn := fun _ => fun
  | [d] => { results := [.lit (.bool true)], args := [d] }
  | _ => none }
def fnExactAlignLanesRow : OpenClaim := { program := "ytbmhdlgpglbdnaa", sum := "e7eb7db4462a868b8f977908b7b978edf62f514eaa3fc9e4a6eb966d1ca367bc", func := "loop.example/g00986/laws.FnExactAlignLanes", spec := "fnExactAlignLanes", apart := false }
def FnExactAlignLanesSaid : Prop := fnExactAlignLanesRow.holds Try.pinned (OpenSpec.ofChange fnExactAlignLanesSpec)

/-- ITS FALSE NEIGHBOUR: 'it returns false'. Refute it at one input. -/
def fnExactAlignLanesWrong : ChangeSpec := { name := "fnExactAlignLanes", fn := fun _ => fun
  | [d] => { results := [.lit (.bool false)], args := [d] }
  | _ => none }
def FnExactAlignLanesWrongFalsely : Prop := fnExactAlignLanesRow.holds Try.pinned (OpenSpec.ofChange fnExactAlignLanesWrong)

/-- 'laws.FnExactWireFrame': WHATEVER THE INPUT: true; the input reads as it did. -/
def fnExactWireFrameSpec : ChangeSpec := { name := "fnExactWireFrame", fn := fun _ => fun
  | [d] => { results := [.lit (.bool true)], args := [d] }
  | _ => none }
def fnExactWireFrameRow : OpenClaim := { program := "ytbmhdlgpglbdnaa", sum := "e7eb7db4462a868b8f977908b7b978edf62f514eaa3fc9e4a6eb966d1ca367bc", func := "loop.example/g00986/laws.FnExactWireFrame", spec := "fnExactWireFrame", unfollowed := true, recurses := true, apart := false }
def FnExactWireFrameSaid : Prop := fnExactWireFrameRow.holds Try.pinned (OpenSpec.ofChange fnExactWireFrameSpec)

/-- ITS FALSE NEIGHBOUR: 'it returns false'. Refute it at one input. -/
def fnExactWireFrameWrong : ChangeSpec := { name := "fnExactWireFrame", fn := fun _ => fun
  | [d] => { results := [.lit (.bool false)], args := [d] }
  | _ => none }
def FnExactWireFrameWrongFalsely : Prop := fnExactWireFrameRow.holds Try.pinned (OpenSpec.ofChange fnExactWireFrameWrong)

/-- 'laws.FnExactJoinLanes': WHATEVER THE INPUT: true; the input reads as it did. -/
def fnExactJoinLanesSpec : ChangeSpec := { name := "fnExactJoinLanes", fn := fun _ => fun
  | [d] => { results := [.lit (.bool true)], args := [d] }
  | _ => none }
def fnExactJoinLanesRow : OpenClaim := { program := "ytbmhdlgpglbdnaa", sum := "e7eb7db4462a868b8f977908b7b978edf62f514eaa3fc9e4a6eb966d1ca367bc", func := "loop.example/g00986/laws.FnExactJoinLanes", spec := "fnExactJoinLanes", unfollowed := true, recurses := true, apart := false }
def FnExactJoinLanesSaid : Prop := fnExactJoinLanesRow.holds Try.pinned (OpenSpec.ofChange fnExactJoinLanesSpec)

/-- ITS FALSE NEIGHBOUR: 'it returns false'. Refute it at one input. -/
def fnExactJoinLanesWrong : ChangeSpec := { name := "fnExactJoinLanes", fn := fun _ => fun
  | [d] => { results := [.lit (.bool false)], args := [d] }
  | _ => none }
def FnExactJoinLanesWrongFalsely : Prop := fnExactJoinLanesRow.holds Try.pinned (OpenSpec.ofChange fnExactJoinLanesWrong)

/-- 'laws.FnExactTakeWire': WHATEVER THE INPUT: true; the input reads as it did. -/
def fnExactTakeWireSpec : ChangeSpec := { name := "fnExactTakeWire", fn := fun _ => fun
  | [d] => { results := [.lit (.bool true)], args := [d] }
  | _ => none }
def fnExactTakeWireRow : OpenClaim := { program := "ytbmhdlgpglbdnaa", sum := "e7eb7db4462a868b8f977908b7b978edf62f514eaa3fc9e4a6eb966d1ca367bc", func := "loop.example/g00986/laws.FnExactTakeWire", spec := "fnExactTakeWire", unfollowed := true, recurses := true, apart := false }
def FnExactTakeWireSaid : Prop := fnExactTakeWireRow.holds Try.pinned (OpenSpec.ofChange fnExactTakeWireSpec)

/-- ITS FALSE NEIGHBOUR: 'it returns false'. Refute it at one input. -/
def fnExactTakeWireWrong : ChangeSpec := { name := "fnExactTakeWire", fn := fun _ => fun
  | [d] => { results := [.lit (.bool false)], args := [d] }
  | _ => none }
def FnExactTakeWireWrongFalsely : Prop := fnExactTakeWireRow.holds Try.pinned (OpenSpec.ofChange fnExactTakeWireWrong)

/-- 'laws.FnExactJudge': WHATEVER THE INPUT: true; the input reads as it did. -/
def fnExactJudgeSpec : ChangeSpec := { name := "fnExactJudge", fn := fun _ => fun
  | [d1, d2] => { results := [.lit (.bool true)], args := [d1, d2] }
  | _ => none }
def fnExactJudgeRow : OpenClaim := { program := "ytbmhdlgpglbdnaa", sum := "e7eb7db4462a868b8f977908b7b978edf62f514eaa3fc9e4a6eb966d1ca367bc", func := "loop.example/g00986/laws.FnExactJudge", spec := "fnExactJudge", unfollowed := true, recurses := true, apart := false }
def FnExactJudgeSaid : Prop := fnExactJudgeRow.holds Try.pinned (OpenSpec.ofChange fnExactJudgeSpec)

/-- ITS FALSE NEIGHBOUR: 'it returns false'. Refute it at one input. -/
def fnExactJudgeWrong : ChangeSpec := { name := "fnExactJudge", fn := fun _ => fun
  | [d1, d2] => { results := [.lit (.bool false)], args := [d1, d2] }
  | _ => none }
def FnExactJudgeWrongFalsely : Prop := fnExactJudgeRow.holds Try.pinned (OpenSpec.ofChange fnExactJudgeWrong)

/-- 'laws.FnExactTakeFrame': WHATEVER THE INPUT: true; the input reads as it did. -/
def fnExactTakeFrameSpec : ChangeSpec := { name := "fnExactTakeFrame", fn := fun _ => fun
  | [d1, d2] => { results := [.lit (.bool true)], args := [d1, d2] }
  | _ => none }
def fnExactTakeFrameRow : OpenClaim := { program := "ytbmhdlgpglbdnaa", sum := "e7eb7db4462a868b8f977908b7b978edf62f514eaa3fc9e4a6eb966d1ca367bc", func := "loop.example/g00986/laws.FnExactTakeFrame", spec := "fnExactTakeFrame", unfollowed := true, recurses := true, apart := false }
def FnExactTakeFrameSaid : Prop := fnExactTakeFrameRow.holds Try.pinned (OpenSpec.ofChange fnExactTakeFrameSpec)

/-- ITS FALSE NEIGHBOUR: 'it returns false'. Refute it at one input. -/
def fnExactTakeFrameWrong : ChangeSpec := { name := "fnExactTakeFrame", fn := fun _ => fun
  | [d1, d2] => { results := [.lit (.bool false)], args := [d1, d2] }
  | _ => none }
def FnExactTakeFrameWrongFalsely : Prop := fnExactTakeFrameRow.holds Try.pinned (OpenSpec.ofChange fnExactTakeFrameWrong)

/- THE SECOND FORM. 'bulk': how many values and letters a reading holds, each counted each time it is reached (what is shared counts as often as it is met; a slice's spare places count too). A statement '..UptoSaid' is the law's where the arguments, and the package variables that the reading takes, are together of bulk at most 1048576: NARROWER than '..Said'. Prove '..Said' where nothing that the law and all that it calls make is longer than what came in: it says more and counts as full. Else prove '..UptoSaid'. A law counts once. -/
mutual
def uptoBulk {H : Type} : DataW H → Nat
  | .lit (.string bytes) => bytes.length + 1
  | .lit _ => 1
  | .nil => 1
  | .ptr d => uptoBulk d + 1
  | .slice elems spare => uptoBulkAll elems + uptoBulkAll spare + 1
  | .agg parts => uptoBulkAll parts + 1
  | .iface _ d => uptoBulk d + 1
  | .map entries => uptoBulkEntries entries + 1
  | .held _ => 1
def uptoBulkAll {H : Type} : List (DataW H) → Nat
  | [] => 0
  | d :: r => uptoBulk d + uptoBulkAll r
def uptoBulkEntries {H : Type} : List (Lit × DataW H) → Nat
  | [] => 0
  | x :: r => uptoBulkEntry x + uptoBulkEntries r
def uptoBulkEntry {H : Type} : Lit × DataW H → Nat
  | (.string bytes, d) => bytes.length + uptoBulk d + 1
  | (_, d) => uptoBulk d + 1
 end
def uptoSmall : (H : Type) → List (DataW H) → Bool := fun _ ds => decide (uptoBulkAll ds ≤ 1048576)
def OpenSpec.upto (s : _root_.Go.ChangeSpec) : _root_.Go.OpenSpec := { _root_.Go.OpenSpec.ofChange s with cond := some uptoSmall }

/-- 'laws.FnExactStripeBytes', WHERE WHAT IT READS IS OF BULK AT MOST 1048576: true; the input reads as it did. -/
def fnExactStripeBytesUptoRow : OpenClaim := { program := "ytbmhdlgpglbdnaa", sum := "e7eb7db4462a868b8f977908b7b978edf62f514eaa3fc9e4a6eb966d1ca367bc", func := "loop.example/g00986/laws.FnExactStripeBytes", spec := "fnExactStripeBytes", unfollowed := true, recurses := true, apart := false, narrowed := true }
def FnExactStripeBytesUptoSaid : Prop := fnExactStripeBytesUptoRow.holds Try.pinned (OpenSpec.upto fnExactStripeBytesSpec)

/-- 'laws.FnExactReceiverOk', WHERE WHAT IT READS IS OF BULK AT MOST 1048576: true; the input reads as it did. -/
def fnExactReceiverOkUptoRow : OpenClaim := { program := "ytbmhdlgpglbdnaa", sum := "e7eb7db4462a868b8f977908b7b978edf62f514eaa3fc9e4a6eb966d1ca367bc", func := "loop.example/g00986/laws.FnExactReceiverOk", spec := "fnExactReceiverOk", unfollowed := true, recurses := true, apart := false, narrowed := true }
def FnExactReceiverOkUptoSaid : Prop := fnExactReceiverOkUptoRow.holds Try.pinned (OpenSpec.upto fnExactReceiverOkSpec)

/-- 'laws.FnExactReverseLanes', WHERE WHAT IT READS IS OF BULK AT MOST 1048576: true; the input reads as it did. -/
def fnExactReverseLanesUptoRow : OpenClaim := { program := "ytbmhdlgpglbdnaa", sum := "e7eb7db4462a868b8f977908b7b978edf62f514eaa3fc9e4a6eb966d1ca367bc", func := "loop.example/g00986/laws.FnExactReverseLanes", spec := "fnExactReverseLanes", apart := false, narrowed := true }
def FnExactReverseLanesUptoSaid : Prop := fnExactReverseLanesUptoRow.holds Try.pinned (OpenSpec.upto fnExactReverseLanesSpec)

/-- 'laws.FnExactSkewLanes', WHERE WHAT IT READS IS OF BULK AT MOST 1048576: true; the input reads as it did. -/
def fnExactSkewLanesUptoRow : OpenClaim := { program := "ytbmhdlgpglbdnaa", sum := "e7eb7db4462a868b8f977908b7b978edf62f514eaa3fc9e4a6eb966d1ca367bc", func := "loop.example/g00986/laws.FnExactSkewLanes", spec := "fnExactSkewLanes", unfollowed := true, recurses := true, apart := false, narrowed := true }
def FnExactSkewLanesUptoSaid : Prop := fnExactSkewLanesUptoRow.holds Try.pinned (OpenSpec.upto fnExactSkewLanesSpec)

/-- 'laws.FnExactAckOf', WHERE WHAT IT READS IS OF BULK AT MOST 1048576: true; the input reads as it did. -/
def fnExactAckOfUptoRow : OpenClaim := { program := "ytbmhdlgpglbdnaa", sum := "e7eb7db4462a868b8f977908b7b978edf62f514eaa3fc9e4a6eb966d1ca367bc", func := "loop.example/g00986/laws.FnExactAckOf", spec := "fnExactAckOf", unfollowed := true, recurses := true, apart := false, narrowed := true }
def FnExactAckOfUptoSaid : Prop := fnExactAckOfUptoRow.holds Try.pinned (OpenSpec.upto fnExactAckOfSpec)

/-- 'laws.FnExactScrambleBytes', WHERE WHAT IT READS IS OF BULK AT MOST 1048576: true; the input reads as it did. -/
def fnExactScrambleBytesUptoRow : OpenClaim := { program := "ytbmhdlgpglbdnaa", sum := "e7eb7db4462a868b8f977908b7b978edf62f514eaa3fc9e4a6eb966d1ca367bc", func := "loop.example/g00986/laws.FnExactScrambleBytes", spec := "fnExactScrambleBytes", unfollowed := true, recurses := true, apart := false, narrowed := true }
def FnExactScrambleBytesUptoSaid : Prop := fnExactScrambleBytesUptoRow.holds Try.pinned (OpenSpec.upto fnExactScrambleBytesSpec)

/-- 'laws.FnExactAlignLanes', WHERE WHAT IT READS IS OF BULK AT MOST 1048576: true; the input reads as it did. -/
def fnExactAlignLanesUptoRow : OpenClaim := { program := "ytbmhdlgpglbdnaa", sum := "e7eb7db4462a868b8f977908b7b978edf62f514eaa3fc9e4a6eb966d1ca367bc", func := "loop.example/g00986/laws.FnExactAlignLanes", spec := "fnExactAlignLanes", apart := false, narrowed := true }
def FnExactAlignLanesUptoSaid : Prop := fnExactAlignLanesUptoRow.holds Try.pinned (OpenSpec.upto fnExactAlignLanesSpec)

/-- 'laws.FnExactWireFrame', WHERE WHAT IT READS IS OF BULK AT MOST 1048576: true; the input reads as it did. -/
def fnExactWireFrameUptoRow : OpenClaim := { program := "ytbmhdlgpglbdnaa", sum := "e7eb7db4462a868b8f977908b7b978edf62f514eaa3fc9e4a6eb966d1ca367bc", func := "loop.example/g00986/laws.FnExactWireFrame", spec := "fnExactWireFrame", unfollowed := true, recurses := true, apart := false, narrowed := true }
def FnExactWireFrameUptoSaid : Prop := fnExactWireFrameUptoRow.holds Try.pinned (OpenSpec.upto fnExactWireFrameSpec)

/-- 'laws.FnExactJoinLanes', WHERE WHAT IT READS IS OF BULK AT MOST 1048576: true; the input reads as it did. -/
def fnExactJoinLanesUptoRow : OpenClaim := { program := "ytbmhdlgpglbdnaa", sum := "e7eb7db4462a868b8f977908b7b978edf62f514eaa3fc9e4a6eb966d1ca367bc", func := "loop.example/g00986/laws.FnExactJoinLanes", spec := "fnExactJoinLanes", unfollowed := true, recurses := true, apart := false, narrowed := true }
def FnExactJoinLanesUptoSaid : Prop := fnExactJoinLanesUptoRow.holds Try.pinned (OpenSpec.upto fnExactJoinLanesSpec)

/-- 'laws.FnExactTakeWire', WHERE WHAT IT READS IS OF BULK AT MOST 1048576: true; the input reads as it did. -/
def fnExactTakeWireUptoRow : OpenClaim := { program := "ytbmhdlgpglbdnaa", sum := "e7eb7db4462a868b8f977908b7b978edf62f514eaa3fc9e4a6eb966d1ca367bc", func := "loop.example/g00986/laws.FnExactTakeWire", spec := "fnExactTakeWire", unfollowed := true, recurses := true, apart := false, narrowed := true }
def FnExactTakeWireUptoSaid : Prop := fnExactTakeWireUptoRow.holds Try.pinned (OpenSpec.upto fnExactTakeWireSpec)

/-- 'laws.FnExactJudge', WHERE WHAT IT READS IS OF BULK AT MOST 1048576: true; the input reads as it did. -/
def fnExactJudgeUptoRow : OpenClaim := { program := "ytbmhdlgpglbdnaa", sum := "e7eb7db4462a868b8f977908b7b978edf62f514eaa3fc9e4a6eb966d1ca367bc", func := "loop.example/g00986/laws.FnExactJudge", spec := "fnExactJudge", unfollowed := true, recurses := true, apart := false, narrowed := true }
def FnExactJudgeUptoSaid : Prop := fnExactJudgeUptoRow.holds Try.pinned (OpenSpec.upto fnExactJudgeSpec)

/-- 'laws.FnExactTakeFrame', WHERE WHAT IT READS IS OF BULK AT MOST 1048576: true; the input reads as it did. -/
def fnExactTakeFrameUptoRow : OpenClaim := { program := "ytbmhdlgpglbdnaa", sum := "e7eb7db4462a868b8f977908b7b978edf62f514eaa3fc9e4a6eb966d1ca367bc", func := "loop.example/g00986/laws.FnExactTakeFrame", spec := "fnExactTakeFrame", unfollowed := true, recurses := true, apart := false, narrowed := true }
def FnExactTakeFrameUptoSaid : Prop := fnExactTakeFrameUptoRow.holds Try.pinned (OpenSpec.upto fnExactTakeFrameSpec)

end Rows
end Go.Proofs.Ytbmhdlgpglbdnaa
