-- Written by a program of this session (wip/xp): the row of the law cK, out of its pure statement and its walk. Not trusted: Lean checks it.
import Derived.Test.YtmdehehgmnihpaaGreatRows
import Derived.Test.YtmdehehgmnihpaaGreatPFnExactLinkStepx9
import Derived.Test.YtmdehehgmnihpaaGreatPureFnExactLinkStep
import Derived.Test.YtmdehehgmnihpaaGreatVOpens
import Derived.WalkKit
import Derived.ProofKit
import Derived.OpenShut
import Derived.ShutString
import Derived.ChangeOld
import Derived.Below
import Derived.SizedLaws
namespace Go.Proofs.YtmdehehgmnihpaaGreat.fnExactLinkStep
open Go.ChangeShapes Go.WideShapes Go.ChangeAt Go.RowKit Go.Proofs.YtmdehehgmnihpaaGreatX Go.Proofs.YtmdehehgmnihpaaGreatW.PrintWords Go.Proofs.YtmdehehgmnihpaaGreat.PFnExactLinkStep
open Go.ChangeMaps (open_string shut_string)
set_option linter.unusedVariables false
theorem own : ownKnob Tryz.prog.godebug = none := by kernel_rfl
theorem laidOut : laidOutB Tryz.prog = true := by kernel_rfl
set_option maxRecDepth 100000 in
set_option maxHeartbeats 1000000 in
theorem lifted (os : Os) (started : os.Started) (H : Type) (enc : TypeId × Value → H) :
    ReturnsInHanded {} Tryz.checked os 3 .any (Rows.fnExactLinkStepSpec.pre6 enc Tryz.prog Tryz.f3 Rows.fnExactLinkStepRow.domain false) (Rows.fnExactLinkStepSpec.post enc Tryz.prog Tryz.f3 false true false false) := by
  refine returnsInHanded_of_change_sized (C := Tryz.checked) own started (by kernel_rfl) Tryz.func3
    (ChangeSpec.witness6 (enc := enc) (C := Tryz.checked) false ⟨#[], #[.agg #[.int .i64 0, .slice none 0 0, .int .i64 0, .int .i64 0, .slice none 0 0, .slice none 0 0, .slice none 0 0], .agg #[.int .i64 0, .int .i64 0]], []⟩ 8 (by kernel_rfl) (by kernel_rfl) (by kernel_rfl) (by kernel_rfl)) ?_
  intro W base args ds gs before hval0 hW hcnd hsz0 _
  have hval : ∀ (j : Nat) t v, Tryz.f3.params[j]? = some t → args[j]? = some v → Value.okWide Tryz.prog W .any base t v := hval0
  have hW' := hW
  obtain ⟨p, q, hA0, hV, rfl, hfz, hnd⟩ := hW
  have hA : DataW.TrodAll enc Tryz.prog W 0 (fun _ => true) true Tryz.f3.params.toList args.toList ds p := hA0
  rw [Tryz.params3] at hA hval
  obtain ⟨v0, vs0, d0, ds0, p0, q0, hargs, rfl, rfl, h0, r0⟩ := trodAll_cons hA
  obtain ⟨v1, vs1, d1, ds1, p1, q1, rfl, rfl, rfl, h1, r1⟩ := trodAll_cons r0
  obtain ⟨rfl, rfl, rfl⟩ := trodAll_nil r1
  obtain rfl : args = #[v0, v1] := by cases args; simp_all
  obtain ⟨rfl, rfl⟩ := trodVars_none hV
  have k0 := h0
  have lt0 : ∀ x ∈ p0, x.block < W.heap.size := by obtain ⟨m, hm⟩ := k0; exact DataW.trod_lt m _ _ _ hm
  have opens0 := (kI (P := Tryz.prog) (t := 30) (d := (Kd.pair (Kd.pair (Kd.int .i64) (Kd.pair (Kd.slice 108 k108) (Kd.int .i64))) (Kd.pair (Kd.pair (Kd.int .i64) (Kd.slice 28 (Kd.slice 3 (Kd.int .i64)))) (Kd.pair (Kd.slice 28 (Kd.slice 3 (Kd.int .i64))) (Kd.slice 3 (Kd.int .i64)))))) Tryz.underlying30 (by kernel_rfl) (iH rfl (kI Tryz.underlying24 (by kernel_rfl) (iH rfl (iO Tryz.underlying3 (by kernel_rfl)) (iH rfl (iX Tryz.underlying22 (by kernel_rfl) (show Opens Tryz.prog 108 k108 (fun x_ => ((Lit.int .i64 x_.f0).wf = true) ∧ ((x_.f1.length ≤ 9223372036854775807 ∧ ∀ e430 ∈ x_.f1, (Lit.int .i64 e430).wf = true))) from mG (g := fun y_ => ⟨y_.1, y_.2⟩) Tryz.underlying108 (by kernel_rfl) (fun _ => rfl) (iH rfl (iO Tryz.underlying3 (by kernel_rfl)) (kC rfl (iX Tryz.underlying28 (by kernel_rfl) (iO Tryz.underlying3 (by kernel_rfl))))))) (kC rfl (iO Tryz.underlying3 (by kernel_rfl)))))) (iH rfl (kI Tryz.underlying27 (by kernel_rfl) (iH rfl (iO Tryz.underlying3 (by kernel_rfl)) (kC rfl (iX Tryz.underlying25 (by kernel_rfl) (iX Tryz.underlying28 (by kernel_rfl) (iO Tryz.underlying3 (by kernel_rfl))))))) (iH rfl (iX Tryz.underlying25 (by kernel_rfl) (iX Tryz.underlying28 (by kernel_rfl) (iO Tryz.underlying3 (by kernel_rfl)))) (kC rfl (iX Tryz.underlying28 (by kernel_rfl) (iO Tryz.underlying3 (by kernel_rfl))))))))
  obtain ⟨cs0, y0, rfl, K0, F0⟩ := q8 Tryz.underlying30 opens0 (hval 0 30 v0 rfl rfl) h0
  obtain ⟨cl0, rfl⟩ : ∃ l : List Value, cs0 = l.toArray := ⟨cs0.toList, by simp⟩
  obtain ⟨⟨a0_0, l0_1, a0_2⟩, ⟨a0_3, l0_4⟩, l0_5, l0_6⟩ := y0
  replace K0 : ((Kd.pair (Kd.pair (Kd.int .i64) (Kd.pair (Kd.slice 108 k108) (Kd.int .i64))) (Kd.pair (Kd.pair (Kd.int .i64) (Kd.slice 28 (Kd.slice 3 (Kd.int .i64)))) (Kd.pair (Kd.slice 28 (Kd.slice 3 (Kd.int .i64))) (Kd.slice 3 (Kd.int .i64)))))).K W _ cl0 := K0
  obtain ⟨_, _, rfl, ⟨_, _, rfl, rfl, ⟨_, _, rfl, ⟨A0_1, c0_1, rfl, q0_1, g0_1⟩, rfl⟩⟩, ⟨_, _, rfl, ⟨_, _, rfl, rfl, ⟨A0_4, c0_4, rfl, q0_4, g0_4⟩⟩, ⟨_, _, rfl, ⟨A0_5, c0_5, rfl, q0_5, g0_5⟩, ⟨A0_6, c0_6, rfl, q0_6, g0_6⟩⟩⟩⟩ := K0
  obtain ⟨⟨f0_0, f0_1, f0_2⟩, ⟨f0_3, f0_4⟩, f0_5, f0_6⟩ := F0
  have k1 := h1
  have lt1 : ∀ x ∈ p1, x.block < W.heap.size := by obtain ⟨m, hm⟩ := k1; exact DataW.trod_lt m _ _ _ hm
  have opens1 := (kI (P := Tryz.prog) (t := 32) (d := (Kd.pair (Kd.int .i64) (Kd.int .i64))) Tryz.underlying32 (by kernel_rfl) (iH rfl (iO Tryz.underlying3 (by kernel_rfl)) (kC rfl (iO Tryz.underlying3 (by kernel_rfl)))))
  obtain ⟨cs1, y1, rfl, K1, F1⟩ := q8 Tryz.underlying32 opens1 (hval 1 32 v1 rfl rfl) h1
  obtain ⟨cl1, rfl⟩ : ∃ l : List Value, cs1 = l.toArray := ⟨cs1.toList, by simp⟩
  obtain ⟨a1_0, a1_1⟩ := y1
  replace K1 : ((Kd.pair (Kd.int .i64) (Kd.int .i64))).K W _ cl1 := K1
  obtain ⟨_, _, rfl, rfl, rfl⟩ := K1
  obtain ⟨f1_0, f1_1⟩ := F1
  clear hA0 hval0
  obtain ⟨k, hk⟩ := Pure.FnExactLinkStep a0_0 l0_1 a0_2 a0_3 l0_4 l0_5 l0_6 a1_0 a1_1 f0_0 f0_1 f0_2 f0_3 f0_4 f0_5 f0_6 f1_0 f1_1
  refine (cK.calls k a0_0 _ _ l0_1 a0_2 a0_3 _ _ l0_4 _ _ l0_5 _ _ l0_6 a1_0 a1_1 true W g0_1 q0_1 g0_4 q0_4 g0_5 q0_5 g0_6 q0_6 ⟨rfl⟩ hk).mono ?_
  rintro e W' ⟨rfl, bel0⟩
  have bel : Below W.heap.size W W' := bel0
  exact ⟨_, rfl, _, _, _, [], _, [], hW', trodAll_mk1 (shut_bool Tryz.underlying4 _), (trodAll_cons_mk (Below.trod laidOut (by kernel_rfl) (of_decide_eq_true (by kernel_rfl)) k0 bel lt0) (trodAll_cons_mk (Below.trod laidOut (by kernel_rfl) (of_decide_eq_true (by kernel_rfl)) k1 bel lt1) trodAll_mk0)), rfl, bel.frame _, fun h => by cases h⟩
theorem over : Rows.fnExactLinkStepRow.holds Tryz.pinned (OpenSpec.ofChange Rows.fnExactLinkStepSpec) :=
  OpenClaim.holds_of_wide 3 Tryz.f3 rfl rfl rfl rfl rfl rfl rfl ⟨rfl, rfl, rfl, rfl, rfl⟩ rfl rfl rfl rfl rfl (by kernel_rfl) Tryz.func3 (by kernel_rfl)
    (of_decide_eq_true (by kernel_rfl)) (by unfold Func.isWrapper; first | (rw [if_pos (by decide +kernel)]; kernel_rfl) | (rw [if_neg (by decide +kernel)]; exact ⟨rfl, rfl⟩))
    (fun os started H enc _ => lifted os started H enc)
theorem proved : Rows.FnExactLinkStepSaid := over
#print axioms proved
end Go.Proofs.YtmdehehgmnihpaaGreat.fnExactLinkStep
namespace Go.Proofs.YtmdehehgmnihpaaGreat
/-- The row, under a short name, for the claim. -/
theorem fnExactLinkStep_holds : Rows.FnExactLinkStepSaid := fnExactLinkStep.proved
end Go.Proofs.YtmdehehgmnihpaaGreat
