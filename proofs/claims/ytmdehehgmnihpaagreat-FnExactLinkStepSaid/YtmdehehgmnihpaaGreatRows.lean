/-
  No cell of these rows narrows 'for every input' (looked for: loops, veiled, ifaces, maps, wideKeys, modest, calm, conditions, laid).
  DERIVED. THE GIVEN ROWS OF THIS SEAT. 3 by the template 'for every input the law returns true; each argument reads behind the call as it read before'; 0 by the template 'total and deterministic' (their statements: YtmdehehgmnihpaaGreatTotals.lean).
  GIVEN WITH THE SEED: the statements are not yours to turn. If you find one false, say at which input.
  Laid BY PROGRAM, IN A SANDBOX (cutbox-rows.mjs): the forced cells as the released guide's own fill.sh prints them over the translation f3f680f4a7b6e00f… (all of the seat's roots in one cut). By AI agents, Wed Nov 11 2026. No macro, syntax, notation, axiom, sorry.
-/
import Derived.Test.YtmdehehgmnihpaaGreatChecked
import GoSem.Claim
import GoSem.ClaimJoined
import GoSem.ClaimMapViews
import Derived.JoinedTies
import Derived.KernelRfl
namespace Go.Proofs.YtmdehehgmnihpaaGreat
/- THE CELL 'sum', in the pinned program and in every row, IS THE sha256 OF THE DUMP (.gsa) THAT YtmdehehgmnihpaaGreatProg.lean LOADS. Nothing in Lean hashes anything: it is a label: what it is worth is what the hold of that sum in a sandbox is worth. -/
noncomputable def Tryz.pinned : Pinned := { name := "ytmdehehgmnihpaagreat", sum := "f3f680f4a7b6e00fe8bdf141ebd8cabd4030125613a2e57cbc83fab358e583ae", checked := Tryz.checked }
namespace Rows
def none {H : Type} : Left H := { results := [], args := [] }

/-- 'laws.FnExactLinkStep': WHATEVER THE INPUT: true; the input reads as it did. -/
def fnExactLinkStepSpec : ChangeSpec := { name := "fnExactLinkStep", fn := fun _ => fun
  | [d1, d2] => { results := [.lit (.bool true)], args := [d1, d2] }
  | _ => none }
def fnExactLinkStepRow : OpenClaim := { program := "ytmdehehgmnihpaagreat", sum := "f3f680f4a7b6e00fe8bdf141ebd8cabd4030125613a2e57cbc83fab358e583ae", func := "loop.example/g00986/laws.FnExactLinkStep", spec := "fnExactLinkStep", unfollowed := true, recurses := true, apart := false }
def FnExactLinkStepSaid : Prop := fnExactLinkStepRow.holds Tryz.pinned (OpenSpec.ofChange fnExactLinkStepSpec)

/-- ITS FALSE NEIGHBOUR: 'it returns false'. Refute it at one input. -/
def fnExactLinkStepWrong : ChangeSpec := { name := "fnExactLinkStep", fn := fun _ => fun
  | [d1, d2] => { results := [.lit (.bool false)], args := [d1, d2] }
  | _ => none }
def FnExactLinkStepWrongFalsely : Prop := fnExactLinkStepRow.holds Tryz.pinned (OpenSpec.ofChange fnExactLinkStepWrong)

/-- 'laws.FnExactDrainLink': WHATEVER THE INPUT: true; the input reads as it did. -/
def fnExactDrainLinkSpec : ChangeSpec := { name := "fnExactDrainLink", fn := fun _ => fun
  | [d] => { results := [.lit (.bool true)], args := [d] }
  | _ => none }
def fnExactDrainLinkRow : OpenClaim := { program := "ytmdehehgmnihpaagreat", sum := "f3f680f4a7b6e00fe8bdf141ebd8cabd4030125613a2e57cbc83fab358e583ae", func := "loop.example/g00986/laws.FnExactDrainLink", spec := "fnExactDrainLink", unfollowed := true, recurses := true, apart := false }
def FnExactDrainLinkSaid : Prop := fnExactDrainLinkRow.holds Tryz.pinned (OpenSpec.ofChange fnExactDrainLinkSpec)

/-- ITS FALSE NEIGHBOUR: 'it returns false'. Refute it at one input. -/
def fnExactDrainLinkWrong : ChangeSpec := { name := "fnExactDrainLink", fn := fun _ => fun
  | [d] => { results := [.lit (.bool false)], args := [d] }
  | _ => none }
def FnExactDrainLinkWrongFalsely : Prop := fnExactDrainLinkRow.holds Tryz.pinned (OpenSpec.ofChange fnExactDrainLinkWrong)

/-- 'laws.FnExactRunLink': WHATEVER THE INPUT: true; the input reads as it did. -/
def fnExactRunLinkSpec : ChangeSpec := { name := "fnExactRunLink", fn := fun _ => fun
  | [d1, d2] => { results := [.lit (.bool true)], args := [d1, d2] }
  | _ => none }
def fnExactRunLinkRow : OpenClaim := { program := "ytmdehehgmnihpaagreat", sum := "f3f680f4a7b6e00fe8bdf141ebd8cabd4030125613a2e57cbc83fab358e583ae", func := "loop.example/g00986/laws.FnExactRunLink", spec := "fnExactRunLink", unfollowed := true, recurses := true, apart := false }
def FnExactRunLinkSaid : Prop := fnExactRunLinkRow.holds Tryz.pinned (OpenSpec.ofChange fnExactRunLinkSpec)

/-- ITS FALSE NEIGHBOUR: 'it returns false'. Refute it at one input. -/
def fnExactRunLinkWrong : ChangeSpec := { name := "fnExactRunLink", fn := fun _ => fun
  | [d1, d2] => { results := [.lit (.bool false)], args := [d1, d2] }
  | _ => none }
def FnExactRunLinkWrongFalsely : Prop := fnExactRunLinkRow.holds Tryz.pinned (OpenSpec.ofChange fnExactRunLinkWrong)

/- THE SECOND FORM. 'bulk': how many values and letters a reading holds, each counted each time it is reached (what is shared counts as often as it is met; a slice's spare places count too). A statement '..UptoSaid' is the law's where the arguments, and the package variables that the reading takes, are together of bulk at most 1048576: NARROWER than '..Said'. Prove '..Said' where nothing that the law and all that it calls make is longer than what came in: it says more and counts as full. Else prove '..UptoSaid'. A law counts once. -/
mutual
def uptoBulk {H : Type} : DataW H → Nat
  | .lit (.string bytes) => bytes.length + 1
  | .lit _ => 1
  | .nil => 1
  | .ptr d => uptoBulk d + 1
  | .slice elems spare => uptoBulkAll elems + uptoBulkAll spare + 1
  | .agg parts => uptoBulkAll parts + 1
  | .iface _ d => uptoBulk d + 1
  | .map entries => uptoBulkEntries entries + 1
  | .held _ => 1
def uptoBulkAll {H : Type} : List (DataW H) → Nat
  | [] => 0
  | d :: r => uptoBulk d + uptoBulkAll r
def uptoBulkEntries {H : Type} : List (Lit × DataW H) → Nat
  | [] => 0
  | x :: r => uptoBulkEntry x + uptoBulkEntries r
def uptoBulkEntry {H : Type} : Lit × DataW H → Nat
  | (.string bytes, d) => bytes.length + uptoBulk d + 1
  | (_, d) => uptoBulk d + 1
 end
def uptoSmall : (H : Type) → List (DataW H) → Bool := fun _ ds => decide (uptoBulkAll ds ≤ 1048576)
def OpenSpec.upto (s : _root_.Go.ChangeSpec) : _root_.Go.OpenSpec := { _root_.Go.OpenSpec.ofChange s with cond := some uptoSmall }

/-- 'laws.FnExactLinkStep', WHERE WHAT IT READS IS OF BULK AT MOST 1048576: true; the input reads as it did. -/
def fnExactLinkStepUptoRow : OpenClaim := { program := "ytmdehehgmnihpaagreat", sum := "f3f680f4a7b6e00fe8bdf141ebd8cabd4030125613a2e57cbc83fab358e583ae", func := "loop.example/g00986/laws.FnExactLinkStep", spec := "fnExactLinkStep", unfollowed := true, recurses := true, apart := false, narrowed := true }
def FnExactLinkStepUptoSaid : Prop := fnExactLinkStepUptoRow.holds Tryz.pinned (OpenSpec.upto fnExactLinkStepSpec)

/-- 'laws.FnExactDrainLink', WHERE WHAT IT READS IS OF BULK AT MOST 1048576: true; the input reads as it did. -/
def fnExactDrainLinkUptoRow : OpenClaim := { program := "ytmdehehgmnihpaagreat", sum := "f3f680f4a7b6e00fe8bdf141ebd8cabd4030125613a2e57cbc83fab358e583ae", func := "loop.example/g00986/laws.FnExactDrainLink", spec := "fnExactDrainLink", unfollowed := true, recurses := true, apart := false, narrowed := true }
def FnExactDrainLinkUptoSaid : Prop := fnExactDrainLinkUptoRow.holds Tryz.pinned (OpenSpec.upto fnExactDrainLinkSpec)

/-- 'laws.FnExactRunLink', WHERE WHAT IT READS IS OF BULK AT MOST 1048576: true; the input reads as it did. -/
def fnExactRunLinkUptoRow : OpenClaim := { program := "ytmdehehgmnihpaagreat", sum := "f3f680f4a7b6e00fe8bdf141ebd8cabd4030125613a2e57cbc83fab358e583ae", func := "loop.example/g00986/laws.FnExactRunLink", spec := "fnExactRunLink", unfollowed := true, recurses := true, apart := false, narrowed := true }
def FnExactRunLinkUptoSaid : Prop := fnExactRunLinkUptoRow.holds Tryz.pinned (OpenSpec.upto fnExactRunLinkSpec)

end Rows
end Go.Proofs.YtmdehehgmnihpaaGreat
