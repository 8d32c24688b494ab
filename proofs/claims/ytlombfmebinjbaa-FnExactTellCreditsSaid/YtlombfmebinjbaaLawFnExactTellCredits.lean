-- Written by a program of this session (wip/xp): the row of the law laws_FnExactTellCredits, out of its pure statement and its walk. Not trusted: Lean checks it.
import Derived.Test.YtlombfmebinjbaaRows
import Derived.Test.YtlombfmebinjbaaPFnExactTellCreditsx21
import Derived.Test.YtlombfmebinjbaaPureFnExactTellCredits
import Derived.Test.YtlombfmebinjbaaV2Opens
import Derived.WalkKit
import Derived.ProofKit
import Derived.OpenShut
import Derived.ShutString
import Derived.ChangeOld
import Derived.Below
import Derived.SizedLaws
namespace Go.Proofs.Ytlombfmebinjbaa.fnExactTellCredits
open Go.ChangeShapes Go.WideShapes Go.ChangeAt Go.RowKit Go.Proofs.YtlombfmebinjbaaX Go.Proofs.YtlombfmebinjbaaW.PrintWords Go.Proofs.Ytlombfmebinjbaa.PFnExactTellCredits
open Go.ChangeMaps (open_string shut_string)
set_option linter.unusedVariables false
theorem own : ownKnob Try.prog.godebug = none := by kernel_rfl
theorem laidOut : laidOutB Try.prog = true := by kernel_rfl
set_option maxRecDepth 100000 in
set_option maxHeartbeats 1000000 in
theorem lifted (os : Os) (started : os.Started) (H : Type) (enc : TypeId × Value → H) :
    ReturnsInHanded {} Try.checked os 5 .any (Rows.fnExactTellCreditsSpec.pre6 enc Try.prog Try.f5 Rows.fnExactTellCreditsRow.domain false) (Rows.fnExactTellCreditsSpec.post enc Try.prog Try.f5 false true false false) := by
  refine returnsInHanded_of_change_sized (C := Try.checked) own started (by kernel_rfl) Try.func5
    (ChangeSpec.witness6 (enc := enc) (C := Try.checked) false ⟨#[], #[.agg #[.slice none 0 0, .slice none 0 0, .slice none 0 0, .slice none 0 0, .slice none 0 0, .slice none 0 0]], []⟩ 8 (by kernel_rfl) (by kernel_rfl) (by kernel_rfl) (by kernel_rfl)) ?_
  intro W base args ds gs before hval0 hW hcnd hsz0 _
  have hval : ∀ (j : Nat) t v, Try.f5.params[j]? = some t → args[j]? = some v → Value.okWide Try.prog W .any base t v := hval0
  have hW' := hW
  obtain ⟨p, q, hA0, hV, rfl, hfz, hnd⟩ := hW
  have hA : DataW.TrodAll enc Try.prog W 0 (fun _ => true) true Try.f5.params.toList args.toList ds p := hA0
  rw [Try.params5] at hA hval
  obtain ⟨v0, vs0, d0, ds0, p0, q0, hargs, rfl, rfl, h0, r0⟩ := trodAll_cons hA
  obtain ⟨rfl, rfl, rfl⟩ := trodAll_nil r0
  obtain rfl : args = #[v0] := by cases args; simp_all
  obtain ⟨rfl, rfl⟩ := trodVars_none hV
  have k0 := h0
  have lt0 : ∀ x ∈ p0, x.block < W.heap.size := by obtain ⟨m, hm⟩ := k0; exact DataW.trod_lt m _ _ _ hm
  have opens0 := (opens_plain (P := Try.prog) (t := 27) (d := (Kd.pair (Kd.pair (Kd.slice 3 (Kd.int .i64)) (Kd.slice 3 (Kd.int .i64))) (Kd.pair (Kd.pair (Kd.slice 3 (Kd.int .i64)) (Kd.slice 3 (Kd.int .i64))) (Kd.pair (Kd.slice 47 k47) (Kd.slice 47 k47))))) Try.underlying27 (by kernel_rfl) (opensF_cons rfl (opens_plain Try.underlying24 (by kernel_rfl) (opensF_cons rfl (opens_slice Try.underlying22 (by kernel_rfl) (opens_int Try.underlying3 (by kernel_rfl))) (opensF_one rfl (opens_slice Try.underlying22 (by kernel_rfl) (opens_int Try.underlying3 (by kernel_rfl)))))) (opensF_cons rfl (opens_plain Try.underlying24 (by kernel_rfl) (opensF_cons rfl (opens_slice Try.underlying22 (by kernel_rfl) (opens_int Try.underlying3 (by kernel_rfl))) (opensF_one rfl (opens_slice Try.underlying22 (by kernel_rfl) (opens_int Try.underlying3 (by kernel_rfl)))))) (opensF_cons rfl (opens_slice Try.underlying25 (by kernel_rfl) (show Opens Try.prog 47 k47 (fun x_ => ((Lit.int .i64 x_.f0).wf = true) ∧ (((Lit.int .i64 x_.f1).wf = true) ∧ (((Lit.int .i64 x_.f2).wf = true) ∧ (((Lit.int .i64 x_.f3).wf = true) ∧ (((Lit.int .i64 x_.f4).wf = true) ∧ (((Lit.int .i64 x_.f5).wf = true) ∧ (((Lit.int .i64 x_.f6).wf = true) ∧ ((x_.f7.length ≤ 9223372036854775807 ∧ ∀ e339 ∈ x_.f7, (Lit.int .i64 e339).wf = true))))))))) from opens_struct (g := fun y_ => ⟨y_.1, y_.2.1, y_.2.2.1, y_.2.2.2.1, y_.2.2.2.2.1, y_.2.2.2.2.2.1, y_.2.2.2.2.2.2.1, y_.2.2.2.2.2.2.2⟩) Try.underlying47 (by kernel_rfl) (fun _ => rfl) (opensF_cons rfl (opens_int Try.underlying3 (by kernel_rfl)) (opensF_cons rfl (opens_int Try.underlying3 (by kernel_rfl)) (opensF_cons rfl (opens_int Try.underlying3 (by kernel_rfl)) (opensF_cons rfl (opens_int Try.underlying3 (by kernel_rfl)) (opensF_cons rfl (opens_int Try.underlying3 (by kernel_rfl)) (opensF_cons rfl (opens_int Try.underlying3 (by kernel_rfl)) (opensF_cons rfl (opens_int Try.underlying3 (by kernel_rfl)) (opensF_one rfl (opens_slice Try.underlying22 (by kernel_rfl) (opens_int Try.underlying3 (by kernel_rfl))))))))))))) (opensF_one rfl (opens_slice Try.underlying25 (by kernel_rfl) (show Opens Try.prog 47 k47 (fun x_ => ((Lit.int .i64 x_.f0).wf = true) ∧ (((Lit.int .i64 x_.f1).wf = true) ∧ (((Lit.int .i64 x_.f2).wf = true) ∧ (((Lit.int .i64 x_.f3).wf = true) ∧ (((Lit.int .i64 x_.f4).wf = true) ∧ (((Lit.int .i64 x_.f5).wf = true) ∧ (((Lit.int .i64 x_.f6).wf = true) ∧ ((x_.f7.length ≤ 9223372036854775807 ∧ ∀ e338 ∈ x_.f7, (Lit.int .i64 e338).wf = true))))))))) from opens_struct (g := fun y_ => ⟨y_.1, y_.2.1, y_.2.2.1, y_.2.2.2.1, y_.2.2.2.2.1, y_.2.2.2.2.2.1, y_.2.2.2.2.2.2.1, y_.2.2.2.2.2.2.2⟩) Try.underlying47 (by kernel_rfl) (fun _ => rfl) (opensF_cons rfl (opens_int Try.underlying3 (by kernel_rfl)) (opensF_cons rfl (opens_int Try.underlying3 (by kernel_rfl)) (opensF_cons rfl (opens_int Try.underlying3 (by kernel_rfl)) (opensF_cons rfl (opens_int Try.underlying3 (by kernel_rfl)) (opensF_cons rfl (opens_int Try.underlying3 (by kernel_rfl)) (opensF_cons rfl (opens_int Try.underlying3 (by kernel_rfl)) (opensF_cons rfl (opens_int Try.underlying3 (by kernel_rfl)) (opensF_one rfl (opens_slice Try.underlying22 (by kernel_rfl) (opens_int Try.underlying3 (by kernel_rfl))))))))))))))))))
  obtain ⟨cs0, y0, rfl, K0, F0⟩ := open_agg Try.underlying27 opens0 (hval 0 27 v0 rfl rfl) h0
  obtain ⟨cl0, rfl⟩ : ∃ l : List Value, cs0 = l.toArray := ⟨cs0.toList, by simp⟩
  obtain ⟨⟨l0_0, l0_1⟩, ⟨l0_2, l0_3⟩, l0_4, l0_5⟩ := y0
  replace K0 : ((Kd.pair (Kd.pair (Kd.slice 3 (Kd.int .i64)) (Kd.slice 3 (Kd.int .i64))) (Kd.pair (Kd.pair (Kd.slice 3 (Kd.int .i64)) (Kd.slice 3 (Kd.int .i64))) (Kd.pair (Kd.slice 47 k47) (Kd.slice 47 k47))))).K W _ cl0 := K0
  obtain ⟨_, _, rfl, ⟨_, _, rfl, ⟨A0_0, c0_0, rfl, q0_0, g0_0⟩, ⟨A0_1, c0_1, rfl, q0_1, g0_1⟩⟩, ⟨_, _, rfl, ⟨_, _, rfl, ⟨A0_2, c0_2, rfl, q0_2, g0_2⟩, ⟨A0_3, c0_3, rfl, q0_3, g0_3⟩⟩, ⟨_, _, rfl, ⟨A0_4, c0_4, rfl, q0_4, g0_4⟩, ⟨A0_5, c0_5, rfl, q0_5, g0_5⟩⟩⟩⟩ := K0
  obtain ⟨⟨f0_0, f0_1⟩, ⟨f0_2, f0_3⟩, f0_4, f0_5⟩ := F0
  clear hA0 hval0
  obtain ⟨k, hk⟩ := Pure.FnExactTellCredits l0_0 l0_1 l0_2 l0_3 l0_4 l0_5 f0_0 f0_1 f0_2 f0_3 f0_4 f0_5
  refine (laws_FnExactTellCredits.calls k _ _ l0_0 _ _ l0_1 _ _ l0_2 _ _ l0_3 _ _ l0_4 _ _ l0_5 true W g0_0 q0_0 g0_1 q0_1 g0_2 q0_2 g0_3 q0_3 g0_4 q0_4 g0_5 q0_5 ⟨rfl⟩ hk).mono ?_
  rintro e W' ⟨rfl, bel0⟩
  have bel : Below W.heap.size W W' := bel0
  exact ⟨_, rfl, _, _, _, [], _, [], hW', trodAll_mk1 (shut_bool Try.underlying4 _), (trodAll_cons_mk (Below.trod laidOut (by kernel_rfl) (of_decide_eq_true (by kernel_rfl)) k0 bel lt0) trodAll_mk0), rfl, bel.frame _, fun h => by cases h⟩
theorem over : Rows.fnExactTellCreditsRow.holds Try.pinned (OpenSpec.ofChange Rows.fnExactTellCreditsSpec) :=
  OpenClaim.holds_of_wide 5 Try.f5 rfl rfl rfl rfl rfl rfl rfl ⟨rfl, rfl, rfl, rfl, rfl⟩ rfl rfl rfl rfl rfl (by kernel_rfl) Try.func5 (by kernel_rfl)
    (of_decide_eq_true (by kernel_rfl)) (by unfold Func.isWrapper; first | (rw [if_pos (by decide +kernel)]; kernel_rfl) | (rw [if_neg (by decide +kernel)]; exact ⟨rfl, rfl⟩))
    (fun os started H enc _ => lifted os started H enc)
theorem proved : Rows.FnExactTellCreditsSaid := over
#print axioms proved
end Go.Proofs.Ytlombfmebinjbaa.fnExactTellCredits
namespace Go.Proofs.Ytlombfmebinjbaa
/-- The row, under a short name, for the claim. -/
theorem fnExactTellCredits_holds : Rows.FnExactTellCreditsSaid := fnExactTellCredits.proved
end Go.Proofs.Ytlombfmebinjbaa
