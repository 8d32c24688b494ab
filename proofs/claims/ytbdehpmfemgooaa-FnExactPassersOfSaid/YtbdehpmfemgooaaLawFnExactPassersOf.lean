-- Written by a program of this session (wip/xp): the row of the law laws_FnExactPassersOf, out of its pure statement and its walk. Not trusted: Lean checks it.
import Derived.Test.YtbdehpmfemgooaaRows
import Derived.Test.YtbdehpmfemgooaaPFnExactPassersOfx11
import Derived.Test.YtbdehpmfemgooaaPureFnExactPassersOf
import Derived.Test.YtbdehpmfemgooaaVOOpens
import Derived.WalkKit
import Derived.ProofKit
import Derived.OpenShut
import Derived.ShutString
import Derived.ChangeOld
import Derived.Below
import Derived.SizedLaws
namespace Go.Proofs.Ytbdehpmfemgooaa.fnExactPassersOf
open Go.ChangeShapes Go.WideShapes Go.ChangeAt Go.RowKit Go.Proofs.YtbdehpmfemgooaaX Go.Proofs.YtbdehpmfemgooaaW.PrintWords Go.Proofs.Ytbdehpmfemgooaa.PFnExactPassersOf
open Go.ChangeMaps (open_string shut_string)
set_option linter.unusedVariables false
theorem own : ownKnob Try.prog.godebug = none := by kernel_rfl
theorem laidOut : laidOutB Try.prog = true := by kernel_rfl
set_option maxRecDepth 100000 in
set_option maxHeartbeats 1000000 in
theorem lifted (os : Os) (started : os.Started) (H : Type) (enc : TypeId × Value → H) :
    ReturnsInHanded {} Try.checked os 4 .any (Rows.fnExactPassersOfSpec.pre6 enc Try.prog Try.f4 Rows.fnExactPassersOfRow.domain false) (Rows.fnExactPassersOfSpec.post enc Try.prog Try.f4 false true false false) := by
  refine returnsInHanded_of_change_sized (C := Try.checked) own started (by kernel_rfl) Try.func4
    (ChangeSpec.witness6 (enc := enc) (C := Try.checked) false ⟨#[], #[.slice none 0 0], []⟩ 8 (by kernel_rfl) (by kernel_rfl) (by kernel_rfl) (by kernel_rfl)) ?_
  intro W base args ds gs before hval0 hW hcnd hsz0 _
  have hval : ∀ (j : Nat) t v, Try.f4.params[j]? = some t → args[j]? = some v → Value.okWide Try.prog W .any base t v := hval0
  have hW' := hW
  obtain ⟨p, q, hA0, hV, rfl, hfz, hnd⟩ := hW
  have hA : DataW.TrodAll enc Try.prog W 0 (fun _ => true) true Try.f4.params.toList args.toList ds p := hA0
  rw [Try.params4] at hA hval
  obtain ⟨v0, vs0, d0, ds0, p0, q0, hargs, rfl, rfl, h0, r0⟩ := trodAll_cons hA
  obtain ⟨rfl, rfl, rfl⟩ := trodAll_nil r0
  obtain rfl : args = #[v0] := by cases args; simp_all
  obtain ⟨rfl, rfl⟩ := trodVars_none hV
  have k0 := h0
  have lt0 : ∀ x ∈ p0, x.block < W.heap.size := by obtain ⟨m, hm⟩ := k0; exact DataW.trod_lt m _ _ _ hm
  have opens0 := (opens_slice (P := Try.prog) (t := 38) (d := k69) Try.underlying38 (by kernel_rfl) (show Opens Try.prog 69 k69 (fun x_ => ((Lit.int .i64 x_.f0).wf = true) ∧ (((Lit.int .i64 x_.f1).wf = true) ∧ (((Lit.int .i64 x_.f2).wf = true) ∧ (((Lit.int .i64 x_.f3).wf = true) ∧ (((Lit.int .i64 x_.f4).wf = true) ∧ (((Lit.int .i64 x_.f5).wf = true) ∧ (((Lit.int .i64 x_.f6).wf = true) ∧ ((x_.f7.length ≤ 9223372036854775807 ∧ ∀ e239 ∈ x_.f7, (Lit.int .i64 e239).wf = true))))))))) from opens_struct (g := fun y_ => ⟨y_.1, y_.2.1, y_.2.2.1, y_.2.2.2.1, y_.2.2.2.2.1, y_.2.2.2.2.2.1, y_.2.2.2.2.2.2.1, y_.2.2.2.2.2.2.2⟩) Try.underlying69 (by kernel_rfl) (fun _ => rfl) (opensF_cons rfl (opens_int Try.underlying3 (by kernel_rfl)) (opensF_cons rfl (opens_int Try.underlying3 (by kernel_rfl)) (opensF_cons rfl (opens_int Try.underlying3 (by kernel_rfl)) (opensF_cons rfl (opens_int Try.underlying3 (by kernel_rfl)) (opensF_cons rfl (opens_int Try.underlying3 (by kernel_rfl)) (opensF_cons rfl (opens_int Try.underlying3 (by kernel_rfl)) (opensF_cons rfl (opens_int Try.underlying3 (by kernel_rfl)) (opensF_one rfl (opens_slice Try.underlying22 (by kernel_rfl) (opens_int Try.underlying3 (by kernel_rfl)))))))))))))
  obtain ⟨A0, c0, l0, rfl, q0, g0, f0⟩ := open_row Try.underlying38 opens0 (hval 0 38 v0 rfl rfl) h0
  clear hA0 hval0
  obtain ⟨k, hk⟩ := Pure.FnExactPassersOf l0 f0
  refine (laws_FnExactPassersOf.calls k _ _ l0 true W g0 q0 ⟨rfl⟩ hk).mono ?_
  rintro e W' ⟨rfl, bel0⟩
  have bel : Below W.heap.size W W' := bel0
  exact ⟨_, rfl, _, _, _, [], _, [], hW', trodAll_mk1 (shut_bool Try.underlying4 _), (trodAll_cons_mk (Below.trod laidOut (by kernel_rfl) (of_decide_eq_true (by kernel_rfl)) k0 bel lt0) trodAll_mk0), rfl, bel.frame _, fun h => by cases h⟩
theorem over : Rows.fnExactPassersOfRow.holds Try.pinned (OpenSpec.ofChange Rows.fnExactPassersOfSpec) :=
  OpenClaim.holds_of_wide 4 Try.f4 rfl rfl rfl rfl rfl rfl rfl ⟨rfl, rfl, rfl, rfl, rfl⟩ rfl rfl rfl rfl rfl (by kernel_rfl) Try.func4 (by kernel_rfl)
    (of_decide_eq_true (by kernel_rfl)) (by unfold Func.isWrapper; first | (rw [if_pos (by decide +kernel)]; kernel_rfl) | (rw [if_neg (by decide +kernel)]; exact ⟨rfl, rfl⟩))
    (fun os started H enc _ => lifted os started H enc)
theorem proved : Rows.FnExactPassersOfSaid := over
#print axioms proved
end Go.Proofs.Ytbdehpmfemgooaa.fnExactPassersOf
namespace Go.Proofs.Ytbdehpmfemgooaa
/-- The row, under a short name, for the claim. -/
theorem fnExactPassersOf_holds : Rows.FnExactPassersOfSaid := fnExactPassersOf.proved
end Go.Proofs.Ytbdehpmfemgooaa
