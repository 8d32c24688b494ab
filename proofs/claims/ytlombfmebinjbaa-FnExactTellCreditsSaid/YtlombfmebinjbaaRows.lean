/-
  No cell of these rows narrows 'for every input' (looked for: loops, veiled, ifaces, maps, wideKeys, modest, calm, conditions, laid).
  DERIVED. THE GIVEN ROWS OF THIS SEAT. 5 by the template 'for every input the law returns true; each argument reads behind the call as it read before'; 0 by the template 'total and deterministic' (their statements: YtlombfmebinjbaaTotals.lean).
  GIVEN WITH THE SEED: the statements are not yours to turn. If you find one false, say at which input.
  Laid BY PROGRAM, IN A SANDBOX (cutbox-rows.mjs): the forced cells as the released guide's own fill.sh prints them over the translation cdf2674a7bcf6263… (all of the seat's roots in one cut). By AI agents, Wed Nov 11 2026. No macro, syntax, notation, axiom, sorry.
-/
import Derived.Test.YtlombfmebinjbaaChecked
import GoSem.Claim
import GoSem.ClaimJoined
import GoSem.ClaimMapViews
import Derived.JoinedTies
import Derived.KernelRfl
namespace Go.Proofs.Ytlombfmebinjbaa
/- THE CELL 'sum', in the pinned program and in every row, IS THE sha256 OF THE DUMP (.gsa) THAT YtlombfmebinjbaaProg.lean LOADS. Nothing in Lean hashes anything: it is a label: what it is worth is what the hold of that sum in a sandbox is worth. -/
noncomputable def Try.pinned : Pinned := { name := "ytlombfmebinjbaa", sum := "cdf2674a7bcf6263a230569da598e34b1f4d7e75baa81917c70e53b83dbff877", checked := Try.checked }
namespace Rows
def none {H : Type} : Left H := { results := [], args := [] }

/-- 'laws.FnExactChannelOk': WHATEVER THE INPUT: true; the input reads as it did. -/
def fnExactChannelOkSpec : ChangeSpec := { name := "fnExactChannelOk", fn := fun _ => fun
  | [d] => { results := [.lit (.bool true)], args := [d] }
  | _ => none }
def fnExactChannelOkRow : OpenClaim := { program := "ytlombfmebinjbaa", sum := "cdf2674a7bcf6263a230569da598e34b1f4d7e75baa81917c70e53b83dbff877", func := "loop.example/g00986/laws.FnExactChannelOk", spec := "fnExactChannelOk", unfollowed := true, recurses := true, apart := false }
def FnExactChannelOkSaid : Prop := fnExactChannelOkRow.holds Try.pinned (OpenSpec.ofChange fnExactChannelOkSpec)

/-- ITS FALSE NEIGHBOUR: 'it returns false'. Refute it at one input. -/
def fnExactChannelOkWrong : ChangeSpec := { name := "fnExactChannelOk", fn := fun _ => fun
  | [d] => { results := [.lit (.bool false)], args := [d] }
  | _ => none }
def FnExactChannelOkWrongFalsely : Prop := fnExactChannelOkRow.holds Try.pinned (OpenSpec.ofChange fnExactChannelOkWrong)

/-- 'laws.FnExactFreePacket': WHATEVER THE INPUT: true; the input reads as it did. -/
def fnExactFreePacketSpec : ChangeSpec := { name := "fnExactFreePacket", fn := fun _ => fun
  | [d1, d2] => { results := [.lit (.bool true)], args := [d1, d2] }
  | _ => none }
def fnExactFreePacketRow : OpenClaim := { program := "ytlombfmebinjbaa", sum := "cdf2674a7bcf6263a230569da598e34b1f4d7e75baa81917c70e53b83dbff877", func := "loop.example/g00986/laws.FnExactFreePacket", spec := "fnExactFreePacket", unfollowed := true, recurses := true, apart := false }
def FnExactFreePacketSaid : Prop := fnExactFreePacketRow.holds Try.pinned (OpenSpec.ofChange fnExactFreePacketSpec)

/-- ITS FALSE NEIGHBOUR: 'it returns false'. Refute it at one input. -/
def fnExactFreePacketWrong : ChangeSpec := { name := "fnExactFreePacket", fn := fun _ => fun
  | [d1, d2] => { results := [.lit (.bool false)], args := [d1, d2] }
  | _ => none }
def FnExactFreePacketWrongFalsely : Prop := fnExactFreePacketRow.holds Try.pinned (OpenSpec.ofChange fnExactFreePacketWrong)

/-- 'laws.FnExactTellCredits': WHATEVER THE INPUT: true; the input reads as it did. -/
def fnExactTellCreditsSpec : ChangeSpec := { name := "fnExactTellCredits", fn := fun _ => fun
  | [d] => { results := [.lit (.bool true)], args := [d] }
  | _ => none }
def fnExactTellCreditsRow : OpenClaim := { program := "ytlombfmebinjbaa", sum := "cdf2674a7bcf6263a230569da598e34b1f4d7e75baa81917c70e53b83dbff877", func := "loop.example/g00986/laws.FnExactTellCredits", spec := "fnExactTellCredits", unfollowed := true, recurses := true, apart := false }
def FnExactTellCreditsSaid : Prop := fnExactTellCreditsRow.holds Try.pinned (OpenSpec.ofChange fnExactTellCreditsSpec)

/-- ITS FALSE NEIGHBOUR: 'it returns false'. Refute it at one input. -/
def fnExactTellCreditsWrong : ChangeSpec := { name := "fnExactTellCredits", fn := fun _ => fun
  | [d] => { results := [.lit (.bool false)], args := [d] }
  | _ => none }
def FnExactTellCreditsWrongFalsely : Prop := fnExactTellCreditsRow.holds Try.pinned (OpenSpec.ofChange fnExactTellCreditsWrong)

/-- 'laws.FnExactPutPacket': WHATEVER THE INPUT: true; the input reads as it did. -/
def fnExactPutPacketSpec : ChangeSpec := { name := "fnExactPutPacket", fn := fun _ => fun
  | [d1, d2] => { results := [.lit (.bool true)], args := [d1, d2] }
  | _ => none }
def fnExactPutPacketRow : OpenClaim := { program := "ytlombfmebinjbaa", sum := "cdf2674a7bcf6263a230569da598e34b1f4d7e75baa81917c70e53b83dbff877", func := "loop.example/g00986/laws.FnExactPutPacket", spec := "fnExactPutPacket", unfollowed := true, recurses := true, apart := false }
def FnExactPutPacketSaid : Prop := fnExactPutPacketRow.holds Try.pinned (OpenSpec.ofChange fnExactPutPacketSpec)

/-- ITS FALSE NEIGHBOUR: 'it returns false'. Refute it at one input. -/
def fnExactPutPacketWrong : ChangeSpec := { name := "fnExactPutPacket", fn := fun _ => fun
  | [d1, d2] => { results := [.lit (.bool false)], args := [d1, d2] }
  | _ => none }
def FnExactPutPacketWrongFalsely : Prop := fnExactPutPacketRow.holds Try.pinned (OpenSpec.ofChange fnExactPutPacketWrong)

/-- 'laws.FnFlow': WHATEVER THE INPUT: true; the input reads as it did. -/
def fnFlowSpec : ChangeSpec := { name := "fnFlow", fn := fun _ => fun
  | [d] => { results := [.lit (.bool true)], args := [d] }
  | _ => none }
def fnFlowRow : OpenClaim := { program := "ytlombfmebinjbaa", sum := "cdf2674a7bcf6263a230569da598e34b1f4d7e75baa81917c70e53b83dbff877", func := "loop.example/g00986/laws.FnFlow", spec := "fnFlow", unfollowed := true, recurses := true, apart := false }
def FnFlowSaid : Prop := fnFlowRow.holds Try.pinned (OpenSpec.ofChange fnFlowSpec)

/-- ITS FALSE NEIGHBOUR: 'it returns false'. Refute it at one input. -/
def fnFlowWrong : ChangeSpec := { name := "fnFlow", fn := fun _ => fun
  | [d] => { results := [.lit (.bool false)], args := [d] }
  | _ => none }
def FnFlowWrongFalsely : Prop := fnFlowRow.holds Try.pinned (OpenSpec.ofChange fnFlowWrong)

/- THE SECOND FORM. 'bulk': how many values and letters a reading holds, each counted each time it is reached (what is shared counts as often as it is met; a slice's spare places count too). A statement '..UptoSaid' is the law's where the arguments, and the package variables that the reading takes, are together of bulk at most 1048576: NARROWER than '..Said'. Prove '..Said' where nothing that the law and all that it calls make is longer than what came in: it says more and counts as full. Else prove '..UptoSaid'. A law counts once. -/
mutual
def uptoBulk {H : Type} : DataW H → Nat
  | .lit (.string bytes) => bytes.length + 1
  | .lit _ => 1
  | .nil => 1
  | .ptr d => uptoBulk d + 1
  | .slice elems spare => uptoBulkAll elems + uptoBulkAll spare + 1
  | .agg parts => uptoBulkAll parts + 1
  | .iface _ d => uptoBulk d + 1
  | .map entries => uptoBulkEntries entries + 1
  | .held _ => 1
def uptoBulkAll {H : Type} : List (DataW H) → Nat
  | [] => 0
  | d :: r => uptoBulk d + uptoBulkAll r
def uptoBulkEntries {H : Type} : List (Lit × DataW H) → Nat
  | [] => 0
  | x :: r => uptoBulkEntry x + uptoBulkEntries r
def uptoBulkEntry {H : Type} : Lit × DataW H → Nat
  | (.string bytes, d) => bytes.length + uptoBulk d + 1
  | (_, d) => uptoBulk d + 1
 end
def uptoSmall : (H : Type) → List (DataW H) → Bool := fun _ ds => decide (uptoBulkAll ds ≤ 1048576)
def OpenSpec.upto (s : _root_.Go.ChangeSpec) : _root_.Go.OpenSpec := { _root_.Go.OpenSpec.ofChange s with cond := some uptoSmall }

/-- 'laws.FnExactChannelOk', WHERE WHAT IT READS IS OF BULK AT MOST 1048576: true; the input reads as it did. -/
def fnExactChannelOkUptoRow : OpenClaim := { program := "ytlombfmebinjbaa", sum := "cdf2674a7bcf6263a230569da598e34b1f4d7e75baa81917c70e53b83dbff877", func := "loop.example/g00986/laws.FnExactChannelOk", spec := "fnExactChannelOk", unfollowed := true, recurses := true, apart := false, narrowed := true }
def FnExactChannelOkUptoSaid : Prop := fnExactChannelOkUptoRow.holds Try.pinned (OpenSpec.upto fnExactChannelOkSpec)

/-- 'laws.FnExactFreePacket', WHERE WHAT IT READS IS OF BULK AT MOST 1048576: true; the input reads as it did. -/
def fnExactFreePacketUptoRow : OpenClaim := { program := "ytlombfmebinjbaa", sum := "cdf2674a7bcf6263a230569da598e34b1f4d7e75baa81917c70e53b83dbff877", func := "loop.example/g00986/laws.FnExactFreePacket", spec := "fnExactFreePacket", unfollowed := true, recurses := true, apart := false, narrowed := true }
def FnExactFreePacketUptoSaid : Prop := fnExactFreePacketUptoRow.holds Try.pinned (OpenSpec.upto fnExactFreePacketSpec)

/-- 'laws.FnExactTellCredits', WHERE WHAT IT READS IS OF BULK AT MOST 1048576: true; the input reads as it did. -/
def fnExactTellCreditsUptoRow : OpenClaim := { program := "ytlombfmebinjbaa", sum := "cdf2674a7bcf6263a230569da598e34b1f4d7e75baa81917c70e53b83dbff877", func := "loop.example/g00986/laws.FnExactTellCredits", spec := "fnExactTellCredits", unfollowed := true, recurses := true, apart := false, narrowed := true }
def FnExactTellCreditsUptoSaid : Prop := fnExactTellCreditsUptoRow.holds Try.pinned (OpenSpec.upto fnExactTellCreditsSpec)

/-- 'laws.FnExactPutPacket', WHERE WHAT IT READS IS OF BULK AT MOST 1048576: true; the input reads as it did. -/
def fnExactPutPacketUptoRow : OpenClaim := { program := "ytlombfmebinjbaa", sum := "cdf2674a7bcf6263a230569da598e34b1f4d7e75baa81917c70e53b83dbff877", func := "loop.example/g00986/laws.FnExactPutPacket", spec := "fnExactPutPacket", unfollowed := true, recurses := true, apart := false, narrowed := true }
def FnExactPutPacketUptoSaid : Prop := fnExactPutPacketUptoRow.holds Try.pinned (OpenSpec.upto fnExactPutPacketSpec)

/-- 'laws.FnFlow', WHERE WHAT IT READS IS OF BULK AT MOST 1048576: true; the input reads as it did. -/
def fnFlowUptoRow : OpenClaim := { program := "ytlombfmebinjbaa", sum := "cdf2674a7bcf6263a230569da598e34b1f4d7e75baa81917c70e53b83dbff877", func := "loop.example/g00986/laws.FnFlow", spec := "fnFlow", unfollowed := true, recurses := true, apart := false, narrowed := true }
def FnFlowUptoSaid : Prop := fnFlowUptoRow.holds Try.pinned (OpenSpec.upto fnFlowSpec)

end Rows
end Go.Proofs.Ytlombfmebinjbaa
