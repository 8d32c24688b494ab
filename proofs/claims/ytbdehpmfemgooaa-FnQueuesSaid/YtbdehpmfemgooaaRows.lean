/-
  No cell of these rows narrows 'for every input' (looked for: loops, veiled, ifaces, maps, wideKeys, modest, calm, conditions, laid).
  DERIVED. THE GIVEN ROWS OF THIS SEAT. 5 by the template 'for every input the law returns true; each argument reads behind the call as it read before'; 0 by the template 'total and deterministic' (their statements: YtbdehpmfemgooaaTotals.lean).
  GIVEN WITH THE SEED: the statements are not yours to turn. If you find one false, say at which input.
  Laid BY PROGRAM, IN A SANDBOX (cutbox-rows.mjs): the forced cells as the released guide's own fill.sh prints them over the translation e7ae27d4ac2ac65a… (all of the seat's roots in one cut). By AI agents, Wed Nov 11 2026. No macro, syntax, notation, axiom, sorry.
-/
import Derived.Test.YtbdehpmfemgooaaChecked
import GoSem.Claim
import GoSem.ClaimJoined
import GoSem.ClaimMapViews
import Derived.JoinedTies
import Derived.KernelRfl
namespace Go.Proofs.Ytbdehpmfemgooaa
/- THE CELL 'sum', in the pinned program and in every row, IS THE sha256 OF THE DUMP (.gsa) THAT YtbdehpmfemgooaaProg.lean LOADS. Nothing in Lean hashes anything: it is a label: what it is worth is what the hold of that sum in a sandbox is worth. -/
noncomputable def Try.pinned : Pinned := { name := "ytbdehpmfemgooaa", sum := "e7ae27d4ac2ac65a220b5bb935a2eb26f563b40f8d2158e128ca68edbeaa8106", checked := Try.checked }
namespace Rows
def none {H : Type} : Left H := { results := [], args := [] }

/-- 'laws.FnExactNewChannel': WHATEVER THE INPUT: true; the input reads as it did. -/
def fnExactNewChannelSpec : ChangeSpec := { name := "fnExactNewChannel", fn := fun _ => fun
  | [d] => { results := [.lit (.bool true)], args := [d] }
  | _ => none }
def fnExactNewChannelRow : OpenClaim := { program := "ytbdehpmfemgooaa", sum := "e7ae27d4ac2ac65a220b5bb935a2eb26f563b40f8d2158e128ca68edbeaa8106", func := "loop.example/g00986/laws.FnExactNewChannel", spec := "fnExactNewChannel", unfollowed := true, recurses := true, apart := false }
def FnExactNewChannelSaid : Prop := fnExactNewChannelRow.holds Try.pinned (OpenSpec.ofChange fnExactNewChannelSpec)

/-- ITS FALSE NEIGHBOUR: 'it returns false'. Refute it at one input. -/
def fnExactNewChannelWrong : ChangeSpec := { name := "fnExactNewChannel", fn := fun _ => fun
  | [d] => { results := [.lit (.bool false)], args := [d] }
  | _ => none }
def FnExactNewChannelWrongFalsely : Prop := fnExactNewChannelRow.holds Try.pinned (OpenSpec.ofChange fnExactNewChannelWrong)

/-- 'laws.FnExactPassersOf': WHATEVER THE INPUT: true; the input reads as it did. -/
def fnExactPassersOfSpec : ChangeSpec := { name := "fnExactPassersOf", fn := fun _ => fun
  | [d] => { results := [.lit (.bool true)], args := [d] }
  | _ => none }
def fnExactPassersOfRow : OpenClaim := { program := "ytbdehpmfemgooaa", sum := "e7ae27d4ac2ac65a220b5bb935a2eb26f563b40f8d2158e128ca68edbeaa8106", func := "loop.example/g00986/laws.FnExactPassersOf", spec := "fnExactPassersOf", unfollowed := true, recurses := true, apart := false }
def FnExactPassersOfSaid : Prop := fnExactPassersOfRow.holds Try.pinned (OpenSpec.ofChange fnExactPassersOfSpec)

/-- ITS FALSE NEIGHBOUR: 'it returns false'. Refute it at one input. -/
def fnExactPassersOfWrong : ChangeSpec := { name := "fnExactPassersOf", fn := fun _ => fun
  | [d] => { results := [.lit (.bool false)], args := [d] }
  | _ => none }
def FnExactPassersOfWrongFalsely : Prop := fnExactPassersOfRow.holds Try.pinned (OpenSpec.ofChange fnExactPassersOfWrong)

/-- 'laws.FnPassers': WHATEVER THE INPUT: true; the input reads as it did. -/
def fnPassersSpec : ChangeSpec := { name := "fnPassers", fn := fun _ => fun
  | [d] => { results := [.lit (.bool true)], args := [d] }
  | _ => none }
def fnPassersRow : OpenClaim := { program := "ytbdehpmfemgooaa", sum := "e7ae27d4ac2ac65a220b5bb935a2eb26f563b40f8d2158e128ca68edbeaa8106", func := "loop.example/g00986/laws.FnPassers", spec := "fnPassers", unfollowed := true, recurses := true, apart := false }
def FnPassersSaid : Prop := fnPassersRow.holds Try.pinned (OpenSpec.ofChange fnPassersSpec)

/-- ITS FALSE NEIGHBOUR: 'it returns false'. Refute it at one input. -/
def fnPassersWrong : ChangeSpec := { name := "fnPassers", fn := fun _ => fun
  | [d] => { results := [.lit (.bool false)], args := [d] }
  | _ => none }
def FnPassersWrongFalsely : Prop := fnPassersRow.holds Try.pinned (OpenSpec.ofChange fnPassersWrong)

/-- 'laws.FnQueues': WHATEVER THE INPUT: true; the input reads as it did. -/
def fnQueuesSpec : ChangeSpec := { name := "fnQueues", fn := fun _ => fun
  | [d] => { results := [.lit (.bool true)], args := [d] }
  | _ => none }
def fnQueuesRow : OpenClaim := { program := "ytbdehpmfemgooaa", sum := "e7ae27d4ac2ac65a220b5bb935a2eb26f563b40f8d2158e128ca68edbeaa8106", func := "loop.example/g00986/laws.FnQueues", spec := "fnQueues", unfollowed := true, recurses := true, apart := false }
def FnQueuesSaid : Prop := fnQueuesRow.holds Try.pinned (OpenSpec.ofChange fnQueuesSpec)

/-- ITS FALSE NEIGHBOUR: 'it returns false'. Refute it at one input. -/
def fnQueuesWrong : ChangeSpec := { name := "fnQueues", fn := fun _ => fun
  | [d] => { results := [.lit (.bool false)], args := [d] }
  | _ => none }
def FnQueuesWrongFalsely : Prop := fnQueuesRow.holds Try.pinned (OpenSpec.ofChange fnQueuesWrong)

/-- 'laws.FnBlocked': WHATEVER THE INPUT: true; the input reads as it did. -/
def fnBlockedSpec : ChangeSpec := { name := "fnBlocked", fn := fun _ => fun
  | [d] => { results := [.lit (.bool true)], args := [d] }
  | _ => none }
def fnBlockedRow : OpenClaim := { program := "ytbdehpmfemgooaa", sum := "e7ae27d4ac2ac65a220b5bb935a2eb26f563b40f8d2158e128ca68edbeaa8106", func := "loop.example/g00986/laws.FnBlocked", spec := "fnBlocked", unfollowed := true, recurses := true, apart := false }
def FnBlockedSaid : Prop := fnBlockedRow.holds Try.pinned (OpenSpec.ofChange fnBlockedSpec)

/-- ITS FALSE NEIGHBOUR: 'it returns false'. Refute it at one input. -/
def fnBlockedWrong : ChangeSpec := { name := "fnBlocked", fn := fun _ => fun
  | [d] => { results := [.lit (.bool false)], args := [d] }
  | _ => none }
def FnBlockedWrongFalsely : Prop := fnBlockedRow.holds Try.pinned (OpenSpec.ofChange fnBlockedWrong)

/- THE SECOND FORM. 'bulk': how many values and letters a reading holds, each counted each time it is reached (what is shared counts as often as it is met; a slice's spare places count too). A statement '..UptoSaid' is the law's where the arguments, and the package variables that the reading takes, are together of bulk at most 1048576: NARROWER than '..Said'. Prove '..Said' where nothing that the law and all that it calls make is longer than what came in: it says more and counts as full. Else prove '..UptoSaid'. A law counts once. -/
mutual
def uptoBulk {H : Type} : DataW H → Nat
  | .lit (.string bytes) => bytes.length + 1
  | .lit _ => 1
  | .nil => 1
  | .ptr d => uptoBulk d + 1
  | .slice elems spare => uptoBulkAll elems + uptoBulkAll spare + 1
  | .agg parts => uptoBulkAll parts + 1
  | .iface _ d => uptoBulk d + 1
  | .map entries => uptoBulkEntries entries + 1
  | .held _ => 1
def uptoBulkAll {H : Type} : List (DataW H) → Nat
  | [] => 0
  | d :: r => uptoBulk d + uptoBulkAll r
def uptoBulkEntries {H : Type} : List (Lit × DataW H) → Nat
  | [] => 0
  | x :: r => uptoBulkEntry x + uptoBulkEntries r
def uptoBulkEntry {H : Type} : Lit × DataW H → Nat
  | (.string bytes, d) => bytes.length + uptoBulk d + 1
  | (_, d) => uptoBulk d + 1
 end
def uptoSmall : (H : Type) → List (DataW H) → Bool := fun _ ds => decide (uptoBulkAll ds ≤ 1048576)
def OpenSpec.upto (s : _root_.Go.ChangeSpec) : _root_.Go.OpenSpec := { _root_.Go.OpenSpec.ofChange s with cond := some uptoSmall }

/-- 'laws.FnExactNewChannel', WHERE WHAT IT READS IS OF BULK AT MOST 1048576: true; the input reads as it did. -/
def fnExactNewChannelUptoRow : OpenClaim := { program := "ytbdehpmfemgooaa", sum := "e7ae27d4ac2ac65a220b5bb935a2eb26f563b40f8d2158e128ca68edbeaa8106", func := "loop.example/g00986/laws.FnExactNewChannel", spec := "fnExactNewChannel", unfollowed := true, recurses := true, apart := false, narrowed := true }
def FnExactNewChannelUptoSaid : Prop := fnExactNewChannelUptoRow.holds Try.pinned (OpenSpec.upto fnExactNewChannelSpec)

/-- 'laws.FnExactPassersOf', WHERE WHAT IT READS IS OF BULK AT MOST 1048576: true; the input reads as it did. -/
def fnExactPassersOfUptoRow : OpenClaim := { program := "ytbdehpmfemgooaa", sum := "e7ae27d4ac2ac65a220b5bb935a2eb26f563b40f8d2158e128ca68edbeaa8106", func := "loop.example/g00986/laws.FnExactPassersOf", spec := "fnExactPassersOf", unfollowed := true, recurses := true, apart := false, narrowed := true }
def FnExactPassersOfUptoSaid : Prop := fnExactPassersOfUptoRow.holds Try.pinned (OpenSpec.upto fnExactPassersOfSpec)

/-- 'laws.FnPassers', WHERE WHAT IT READS IS OF BULK AT MOST 1048576: true; the input reads as it did. -/
def fnPassersUptoRow : OpenClaim := { program := "ytbdehpmfemgooaa", sum := "e7ae27d4ac2ac65a220b5bb935a2eb26f563b40f8d2158e128ca68edbeaa8106", func := "loop.example/g00986/laws.FnPassers", spec := "fnPassers", unfollowed := true, recurses := true, apart := false, narrowed := true }
def FnPassersUptoSaid : Prop := fnPassersUptoRow.holds Try.pinned (OpenSpec.upto fnPassersSpec)

/-- 'laws.FnQueues', WHERE WHAT IT READS IS OF BULK AT MOST 1048576: true; the input reads as it did. -/
def fnQueuesUptoRow : OpenClaim := { program := "ytbdehpmfemgooaa", sum := "e7ae27d4ac2ac65a220b5bb935a2eb26f563b40f8d2158e128ca68edbeaa8106", func := "loop.example/g00986/laws.FnQueues", spec := "fnQueues", unfollowed := true, recurses := true, apart := false, narrowed := true }
def FnQueuesUptoSaid : Prop := fnQueuesUptoRow.holds Try.pinned (OpenSpec.upto fnQueuesSpec)

/-- 'laws.FnBlocked', WHERE WHAT IT READS IS OF BULK AT MOST 1048576: true; the input reads as it did. -/
def fnBlockedUptoRow : OpenClaim := { program := "ytbdehpmfemgooaa", sum := "e7ae27d4ac2ac65a220b5bb935a2eb26f563b40f8d2158e128ca68edbeaa8106", func := "loop.example/g00986/laws.FnBlocked", spec := "fnBlocked", unfollowed := true, recurses := true, apart := false, narrowed := true }
def FnBlockedUptoSaid : Prop := fnBlockedUptoRow.holds Try.pinned (OpenSpec.upto fnBlockedSpec)

end Rows
end Go.Proofs.Ytbdehpmfemgooaa
