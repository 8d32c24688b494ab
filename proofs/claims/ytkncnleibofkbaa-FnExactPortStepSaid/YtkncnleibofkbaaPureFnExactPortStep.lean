/- The statement FnExactPortStep over whole numbers: at every port, event and width of the other side the program and the reference step alike. No condition is set. -/
import Derived.Test.YtkncnleibofkbaaPFnExactPortStepx5
namespace Go.Proofs.Ytkncnleibofkbaa.Pure
open Go.RowKit Go.Proofs.Ytkncnleibofkbaa.PFnExactPortStep Go.Proofs.YtkncnleibofkbaaW.PrintWords Go.Proofs.YtkncnleibofkbaaW.PrintLast Go.Proofs.YtkncnleibofkbaaW.PrintMore

theorem in_eq (a l m : Int) : spec_l01In.f a l m = some (decide (l ≤ a ∧ a ≤ m)) := by
  unfold spec_l01In.f
  by_cases h : a ≥ l
  · have h' : l ≤ a := h
    rw [if_pos h]; simp [h']
  · have h' : ¬ l ≤ a := h
    rw [if_neg h]; simp [h']
theorem width_eq (a : Int) : ∃ b, spec_IsWidth.f a = some b := by
  unfold spec_IsWidth.f
  repeat' split
  all_goals exact ⟨_, rfl⟩
/-- A valid port or none: the reference answers, and the program answers the same. -/
theorem portOk_both (a b c d : Int) : ∃ r, ∀ k, spec_PortOk.f (k + 1) a b c d = some r ∧ impl_PortOk.f (k + 1) a b c d = some r := by
  have e : ∀ k, impl_PortOk.f (k + 1) a b c d = spec_PortOk.f 1 a b c d := fun _ => rfl
  have e' : ∀ k, spec_PortOk.f (k + 1) a b c d = spec_PortOk.f 1 a b c d := fun _ => rfl
  have h : ∃ r, spec_PortOk.f 1 a b c d = some r := by
    obtain ⟨b1, h1⟩ := width_eq c
    obtain ⟨b2, h2⟩ := width_eq b
    unfold spec_PortOk.f
    rw [in_eq, h1, in_eq]
    simp only [Option.bind_some, spec_PortOk.j0, h2]
    repeat' split
    all_goals exact ⟨_, rfl⟩
  obtain ⟨r, hr⟩ := h
  exact ⟨r, fun k => ⟨(e' k).trans hr, (e k).trans hr⟩⟩

theorem j6_some (x1 x89 a b c d e f g h p q r s) : ∃ z, spec_PortStep.j6 1 x1 x89 a b c d e f g h p q r s = some z := by
  simp only [spec_PortStep.j6]
  repeat' split
  all_goals exact ⟨_, rfl⟩
theorem j5_some (x1 x75 a b c d e f g h p q r s) : ∃ z, spec_PortStep.j5 2 x1 x75 a b c d e f g h p q r s = some z := by
  simp only [spec_PortStep.j5]
  repeat' split
  all_goals first | exact ⟨_, rfl⟩ | exact j6_some ..
theorem j4_some (x1 x66 a b c d e f g h p q r s) : ∃ z, spec_PortStep.j4 3 x1 x66 a b c d e f g h p q r s = some z := by
  simp only [spec_PortStep.j4]
  repeat' split
  all_goals first | exact ⟨_, rfl⟩ | exact j5_some ..
theorem j3_some (x1 x2 x48 a b c d e f g h p q r s) : ∃ z, spec_PortStep.j3 4 x1 x2 x48 a b c d e f g h p q r s = some z := by
  simp only [spec_PortStep.j3]
  repeat' split
  all_goals first | exact ⟨_, rfl⟩ | exact j4_some ..
theorem j2_some (x1 x2 x38 a b c d e f g h p q r s) : ∃ z, spec_PortStep.j2 5 x1 x2 x38 a b c d e f g h p q r s = some z := by
  obtain ⟨w, hw⟩ := width_eq x2
  simp only [spec_PortStep.j2, hw, Option.bind_some]
  repeat' split
  all_goals first | exact ⟨_, rfl⟩ | exact j3_some ..
theorem j1_some (x1 x2 x28 a b c d e f g h p q r s) : ∃ z, spec_PortStep.j1 6 x1 x2 x28 a b c d e f g h p q r s = some z := by
  simp only [spec_PortStep.j1]
  repeat' split
  all_goals first | exact ⟨_, rfl⟩ | exact j2_some ..
theorem j0_some (x1 x2 x19 a b c d e f g h p q r s) : ∃ z, spec_PortStep.j0 7 x1 x2 x19 a b c d e f g h p q r s = some z := by
  simp only [spec_PortStep.j0]
  repeat' split
  all_goals first | exact ⟨_, rfl⟩ | exact j1_some ..
theorem step_some (a b c d x y : Int) : ∃ z, spec_PortStep.f 7 a b c d x y = some z := by
  obtain ⟨r, hr⟩ := portOk_both a b c d
  unfold spec_PortStep.f
  rw [(hr 6).1]
  simp only [Option.bind_some]
  repeat' split
  all_goals first | exact ⟨_, rfl⟩ | exact j0_some ..
theorem step_same (a b c d x y : Int) : impl_PortStep.f 7 a b c d x y = spec_PortStep.f 7 a b c d x y := rfl

theorem FnExactPortStep : laws_FnExactPortStep.Pure := by
  intro a b c d x y _ _ _ _ _ _
  obtain ⟨⟨p, q, r, s, t⟩, hz⟩ := step_some a b c d x y
  refine ⟨7, ?_⟩
  unfold laws_FnExactPortStep.f laws_toPort.f laws_eqPort.f
  simp only [Option.bind_some, step_same, hz]
  simp

end Go.Proofs.Ytkncnleibofkbaa.Pure
