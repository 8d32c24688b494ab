-- Written by a program of this session (wip/xp): the row of the law laws_FnExactTakeFrame, out of its pure statement and its walk. Not trusted: Lean checks it.
import Derived.Test.YtnonmppmiagmiaaRows
import Derived.Test.YtnonmppmiagmiaaPFnExactTakeFramex10
import Derived.Test.YtnonmppmiagmiaaPureFnExactTakeFrame
import Derived.Test.YtnonmppmiagmiaaVOpens
import Derived.WalkKit
import Derived.ProofKit
import Derived.OpenShut
import Derived.ShutString
import Derived.ChangeOld
import Derived.Below
import Derived.SizedLaws
namespace Go.Proofs.Ytnonmppmiagmiaa.fnExactTakeFrame
open Go.ChangeShapes Go.WideShapes Go.ChangeAt Go.RowKit Go.Proofs.YtnonmppmiagmiaaX Go.Proofs.YtnonmppmiagmiaaW.PrintWords Go.Proofs.Ytnonmppmiagmiaa.PFnExactTakeFrame
open Go.ChangeMaps (open_string shut_string)
set_option linter.unusedVariables false
theorem own : ownKnob Try.prog.godebug = none := by kernel_rfl
theorem laidOut : laidOutB Try.prog = true := by kernel_rfl
set_option maxRecDepth 100000 in
set_option maxHeartbeats 1000000 in
theorem lifted (os : Os) (started : os.Started) (H : Type) (enc : TypeId × Value → H) :
    ReturnsInHanded {} Try.checked os 3 .any (Rows.fnExactTakeFrameSpec.pre6 enc Try.prog Try.f3 Rows.fnExactTakeFrameRow.domain false) (Rows.fnExactTakeFrameSpec.post enc Try.prog Try.f3 false true false false) := by
  refine returnsInHanded_of_change_sized (C := Try.checked) own started (by kernel_rfl) Try.func3
    (ChangeSpec.witness6 (enc := enc) (C := Try.checked) false ⟨#[], #[.agg #[.int .i64 0, .slice none 0 0], .slice none 0 0], []⟩ 8 (by kernel_rfl) (by kernel_rfl) (by kernel_rfl) (by kernel_rfl)) ?_
  intro W base args ds gs before hval0 hW hcnd hsz0 _
  have hval : ∀ (j : Nat) t v, Try.f3.params[j]? = some t → args[j]? = some v → Value.okWide Try.prog W .any base t v := hval0
  have hW' := hW
  obtain ⟨p, q, hA0, hV, rfl, hfz, hnd⟩ := hW
  have hA : DataW.TrodAll enc Try.prog W 0 (fun _ => true) true Try.f3.params.toList args.toList ds p := hA0
  rw [Try.params3] at hA hval
  obtain ⟨v0, vs0, d0, ds0, p0, q0, hargs, rfl, rfl, h0, r0⟩ := trodAll_cons hA
  obtain ⟨v1, vs1, d1, ds1, p1, q1, rfl, rfl, rfl, h1, r1⟩ := trodAll_cons r0
  obtain ⟨rfl, rfl, rfl⟩ := trodAll_nil r1
  obtain rfl : args = #[v0, v1] := by cases args; simp_all
  obtain ⟨rfl, rfl⟩ := trodVars_none hV
  have k0 := h0
  have lt0 : ∀ x ∈ p0, x.block < W.heap.size := by obtain ⟨m, hm⟩ := k0; exact DataW.trod_lt m _ _ _ hm
  have opens0 := (opens_plain (P := Try.prog) (t := 24) (d := (Kd.pair (Kd.int .i64) (Kd.slice 25 (Kd.slice 3 (Kd.int .i64))))) Try.underlying24 (by kernel_rfl) (opensF_cons rfl (opens_int Try.underlying3 (by kernel_rfl)) (opensF_one rfl (opens_slice Try.underlying22 (by kernel_rfl) (opens_slice Try.underlying25 (by kernel_rfl) (opens_int Try.underlying3 (by kernel_rfl)))))))
  obtain ⟨cs0, y0, rfl, K0, F0⟩ := open_agg Try.underlying24 opens0 (hval 0 24 v0 rfl rfl) h0
  obtain ⟨cl0, rfl⟩ : ∃ l : List Value, cs0 = l.toArray := ⟨cs0.toList, by simp⟩
  obtain ⟨a0_0, l0_1⟩ := y0
  replace K0 : ((Kd.pair (Kd.int .i64) (Kd.slice 25 (Kd.slice 3 (Kd.int .i64))))).K W _ cl0 := K0
  obtain ⟨_, _, rfl, rfl, ⟨A0_1, c0_1, rfl, q0_1, g0_1⟩⟩ := K0
  obtain ⟨f0_0, f0_1⟩ := F0
  have k1 := h1
  have lt1 : ∀ x ∈ p1, x.block < W.heap.size := by obtain ⟨m, hm⟩ := k1; exact DataW.trod_lt m _ _ _ hm
  have opens1 := (opens_slice (P := Try.prog) (t := 25) (d := (Kd.int .i64)) Try.underlying25 (by kernel_rfl) (opens_int Try.underlying3 (by kernel_rfl)))
  obtain ⟨A1, c1, l1, rfl, q1, g1, f1⟩ := open_row Try.underlying25 opens1 (hval 1 25 v1 rfl rfl) h1
  clear hA0 hval0
  obtain ⟨k, hk⟩ := Pure.FnExactTakeFrame a0_0 l0_1 l1 f0_0 f0_1 f1
  refine (laws_FnExactTakeFrame.calls k a0_0 _ _ l0_1 _ _ l1 true W g0_1 q0_1 g1 q1 ⟨rfl⟩ hk).mono ?_
  rintro e W' ⟨rfl, bel0⟩
  have bel : Below W.heap.size W W' := bel0
  exact ⟨_, rfl, _, _, _, [], _, [], hW', trodAll_mk1 (shut_bool Try.underlying4 _), (trodAll_cons_mk (Below.trod laidOut (by kernel_rfl) (of_decide_eq_true (by kernel_rfl)) k0 bel lt0) (trodAll_cons_mk (Below.trod laidOut (by kernel_rfl) (of_decide_eq_true (by kernel_rfl)) k1 bel lt1) trodAll_mk0)), rfl, bel.frame _, fun h => by cases h⟩
theorem over : Rows.fnExactTakeFrameRow.holds Try.pinned (OpenSpec.ofChange Rows.fnExactTakeFrameSpec) :=
  OpenClaim.holds_of_wide 3 Try.f3 rfl rfl rfl rfl rfl rfl rfl ⟨rfl, rfl, rfl, rfl, rfl⟩ rfl rfl rfl rfl rfl (by kernel_rfl) Try.func3 (by kernel_rfl)
    (of_decide_eq_true (by kernel_rfl)) (by unfold Func.isWrapper; first | (rw [if_pos (by decide +kernel)]; kernel_rfl) | (rw [if_neg (by decide +kernel)]; exact ⟨rfl, rfl⟩))
    (fun os started H enc _ => lifted os started H enc)
theorem proved : Rows.FnExactTakeFrameSaid := over
#print axioms proved
end Go.Proofs.Ytnonmppmiagmiaa.fnExactTakeFrame
namespace Go.Proofs.Ytnonmppmiagmiaa
/-- The row, under a short name, for the claim. -/
theorem fnExactTakeFrame_holds : Rows.FnExactTakeFrameSaid := fnExactTakeFrame.proved
end Go.Proofs.Ytnonmppmiagmiaa
