-- Written by a program of this session (wip/xp): the row of the law laws_FnExactIsLegalOrder, out of its pure statement and its walk. Not trusted: Lean checks it.
import Derived.Test.YtkapncihoabnmaaRows
import Derived.Test.YtkapncihoabnmaaPFnExactIsLegalOrderx11
import Derived.Test.YtkapncihoabnmaaPureFnExactIsLegalOrder
import Derived.Test.YtkapncihoabnmaaVOpens
import Derived.WalkKit
import Derived.ProofKit
import Derived.OpenShut
import Derived.ShutString
import Derived.ChangeOld
import Derived.Below
import Derived.SizedLaws
namespace Go.Proofs.Ytkapncihoabnmaa.fnExactIsLegalOrder
open Go.ChangeShapes Go.WideShapes Go.ChangeAt Go.RowKit Go.Proofs.YtkapncihoabnmaaX Go.Proofs.YtkapncihoabnmaaW.PrintWords Go.Proofs.Ytkapncihoabnmaa.PFnExactIsLegalOrder
open Go.ChangeMaps (open_string shut_string)
set_option linter.unusedVariables false
theorem own : ownKnob Try.prog.godebug = none := by kernel_rfl
theorem laidOut : laidOutB Try.prog = true := by kernel_rfl
set_option maxRecDepth 100000 in
set_option maxHeartbeats 1000000 in
theorem lifted (os : Os) (started : os.Started) (H : Type) (enc : TypeId × Value → H) :
    ReturnsInHanded {} Try.checked os 8 .any (Rows.fnExactIsLegalOrderSpec.pre6 enc Try.prog Try.f8 Rows.fnExactIsLegalOrderRow.domain false) (Rows.fnExactIsLegalOrderSpec.post enc Try.prog Try.f8 false true false false) := by
  refine returnsInHanded_of_change_sized (C := Try.checked) own started (by kernel_rfl) Try.func8
    (ChangeSpec.witness6 (enc := enc) (C := Try.checked) false ⟨#[], #[.slice none 0 0, .slice none 0 0], []⟩ 8 (by kernel_rfl) (by kernel_rfl) (by kernel_rfl) (by kernel_rfl)) ?_
  intro W base args ds gs before hval0 hW hcnd hsz0 _
  have hval : ∀ (j : Nat) t v, Try.f8.params[j]? = some t → args[j]? = some v → Value.okWide Try.prog W .any base t v := hval0
  have hW' := hW
  obtain ⟨p, q, hA0, hV, rfl, hfz, hnd⟩ := hW
  have hA : DataW.TrodAll enc Try.prog W 0 (fun _ => true) true Try.f8.params.toList args.toList ds p := hA0
  rw [Try.params8] at hA hval
  obtain ⟨v0, vs0, d0, ds0, p0, q0, hargs, rfl, rfl, h0, r0⟩ := trodAll_cons hA
  obtain ⟨v1, vs1, d1, ds1, p1, q1, rfl, rfl, rfl, h1, r1⟩ := trodAll_cons r0
  obtain ⟨rfl, rfl, rfl⟩ := trodAll_nil r1
  obtain rfl : args = #[v0, v1] := by cases args; simp_all
  obtain ⟨rfl, rfl⟩ := trodVars_none hV
  have k0 := h0
  have lt0 : ∀ x ∈ p0, x.block < W.heap.size := by obtain ⟨m, hm⟩ := k0; exact DataW.trod_lt m _ _ _ hm
  have opens0 := (opens_slice (P := Try.prog) (t := 48) (d := k32) Try.underlying48 (by kernel_rfl) (show Opens Try.prog 32 k32 (fun x_ => ((Lit.int .i64 x_.f0).wf = true) ∧ (((Lit.int .i64 x_.f1).wf = true) ∧ (((Lit.int .i64 x_.f2).wf = true) ∧ (((Lit.int .i64 x_.f3).wf = true) ∧ (((Lit.int .i64 x_.f4).wf = true) ∧ (((Lit.int .i64 x_.f5).wf = true) ∧ (((Lit.int .i64 x_.f6).wf = true) ∧ ((x_.f7.length ≤ 9223372036854775807 ∧ ∀ e266 ∈ x_.f7, (Lit.int .i64 e266).wf = true))))))))) from opens_struct (g := fun y_ => ⟨y_.1, y_.2.1, y_.2.2.1, y_.2.2.2.1, y_.2.2.2.2.1, y_.2.2.2.2.2.1, y_.2.2.2.2.2.2.1, y_.2.2.2.2.2.2.2⟩) Try.underlying32 (by kernel_rfl) (fun _ => rfl) (opensF_cons rfl (opens_int Try.underlying3 (by kernel_rfl)) (opensF_cons rfl (opens_int Try.underlying3 (by kernel_rfl)) (opensF_cons rfl (opens_int Try.underlying3 (by kernel_rfl)) (opensF_cons rfl (opens_int Try.underlying3 (by kernel_rfl)) (opensF_cons rfl (opens_int Try.underlying3 (by kernel_rfl)) (opensF_cons rfl (opens_int Try.underlying3 (by kernel_rfl)) (opensF_cons rfl (opens_int Try.underlying3 (by kernel_rfl)) (opensF_one rfl (opens_slice Try.underlying22 (by kernel_rfl) (opens_int Try.underlying3 (by kernel_rfl)))))))))))))
  obtain ⟨A0, c0, l0, rfl, q0, g0, f0⟩ := open_row Try.underlying48 opens0 (hval 0 48 v0 rfl rfl) h0
  have k1 := h1
  have lt1 : ∀ x ∈ p1, x.block < W.heap.size := by obtain ⟨m, hm⟩ := k1; exact DataW.trod_lt m _ _ _ hm
  have opens1 := (opens_slice (P := Try.prog) (t := 22) (d := (Kd.int .i64)) Try.underlying22 (by kernel_rfl) (opens_int Try.underlying3 (by kernel_rfl)))
  obtain ⟨A1, c1, l1, rfl, q1, g1, f1⟩ := open_row Try.underlying22 opens1 (hval 1 22 v1 rfl rfl) h1
  clear hA0 hval0
  obtain ⟨k, hk⟩ := Pure.FnExactIsLegalOrder l0 l1 f0 f1
  refine (laws_FnExactIsLegalOrder.calls k _ _ l0 _ _ l1 true W g0 q0 g1 q1 ⟨rfl⟩ hk).mono ?_
  rintro e W' ⟨rfl, bel0⟩
  have bel : Below W.heap.size W W' := bel0
  exact ⟨_, rfl, _, _, _, [], _, [], hW', trodAll_mk1 (shut_bool Try.underlying4 _), (trodAll_cons_mk (Below.trod laidOut (by kernel_rfl) (of_decide_eq_true (by kernel_rfl)) k0 bel lt0) (trodAll_cons_mk (Below.trod laidOut (by kernel_rfl) (of_decide_eq_true (by kernel_rfl)) k1 bel lt1) trodAll_mk0)), rfl, bel.frame _, fun h => by cases h⟩
theorem over : Rows.fnExactIsLegalOrderRow.holds Try.pinned (OpenSpec.ofChange Rows.fnExactIsLegalOrderSpec) :=
  OpenClaim.holds_of_wide 8 Try.f8 rfl rfl rfl rfl rfl rfl rfl ⟨rfl, rfl, rfl, rfl, rfl⟩ rfl rfl rfl rfl rfl (by kernel_rfl) Try.func8 (by kernel_rfl)
    (of_decide_eq_true (by kernel_rfl)) (by unfold Func.isWrapper; first | (rw [if_pos (by decide +kernel)]; kernel_rfl) | (rw [if_neg (by decide +kernel)]; exact ⟨rfl, rfl⟩))
    (fun os started H enc _ => lifted os started H enc)
theorem proved : Rows.FnExactIsLegalOrderSaid := over
#print axioms proved
end Go.Proofs.Ytkapncihoabnmaa.fnExactIsLegalOrder
namespace Go.Proofs.Ytkapncihoabnmaa
/-- The row, under a short name, for the claim. -/
theorem fnExactIsLegalOrder_holds : Rows.FnExactIsLegalOrderSaid := fnExactIsLegalOrder.proved
end Go.Proofs.Ytkapncihoabnmaa
