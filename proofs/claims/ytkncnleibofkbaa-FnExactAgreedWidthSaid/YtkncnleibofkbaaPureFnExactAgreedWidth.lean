/- The statement FnExactAgreedWidth over whole numbers: the program and the reference find the same width for any two ports. No condition is set. -/
import Derived.Test.YtkncnleibofkbaaPFnExactAgreedWidthx2
namespace Go.Proofs.Ytkncnleibofkbaa.Pure
open Go.RowKit Go.Proofs.Ytkncnleibofkbaa.PFnExactAgreedWidth Go.Proofs.YtkncnleibofkbaaW.PrintWords Go.Proofs.YtkncnleibofkbaaW.PrintLast Go.Proofs.YtkncnleibofkbaaW.PrintMore

theorem in_eq (a l m : Int) : spec_l01In.f a l m = some (decide (l ≤ a ∧ a ≤ m)) := by
  unfold spec_l01In.f
  by_cases h : a ≥ l
  · have h' : l ≤ a := h
    rw [if_pos h]; simp [h']
  · have h' : ¬ l ≤ a := h
    rw [if_neg h]; simp [h']
theorem width_eq (a : Int) : ∃ b, spec_IsWidth.f a = some b := by
  unfold spec_IsWidth.f
  repeat' split
  all_goals exact ⟨_, rfl⟩
/-- A valid port or none: the reference answers, and the program answers the same. -/
theorem portOk_both (a b c d : Int) : ∃ r, ∀ k, spec_PortOk.f (k + 1) a b c d = some r ∧ impl_PortOk.f (k + 1) a b c d = some r := by
  have e : ∀ k, impl_PortOk.f (k + 1) a b c d = spec_PortOk.f 1 a b c d := fun _ => rfl
  have e' : ∀ k, spec_PortOk.f (k + 1) a b c d = spec_PortOk.f 1 a b c d := fun _ => rfl
  have h : ∃ r, spec_PortOk.f 1 a b c d = some r := by
    obtain ⟨b1, h1⟩ := width_eq c
    obtain ⟨b2, h2⟩ := width_eq b
    unfold spec_PortOk.f
    rw [in_eq, h1, in_eq]
    simp only [Option.bind_some, spec_PortOk.j0, h2]
    repeat' split
    all_goals exact ⟨_, rfl⟩
  obtain ⟨r, hr⟩ := h
  exact ⟨r, fun k => ⟨(e' k).trans hr, (e k).trans hr⟩⟩

theorem FnExactAgreedWidth : laws_FnExactAgreedWidth.Pure := by
  intro a b c d a' b' c' d' _ _ _ _ _ _ _ _
  obtain ⟨r, hr⟩ := portOk_both a b c d
  obtain ⟨r', hr'⟩ := portOk_both a' b' c' d'
  obtain ⟨h1, h2⟩ := hr 0
  obtain ⟨h1', h2'⟩ := hr' 0
  refine ⟨1, ?_⟩
  unfold laws_FnExactAgreedWidth.f laws_toPort.f spec_AgreedWidth.f impl_AgreedWidth.f
  simp only [Option.bind_some, h1, h2, h1', h2']
  cases r <;> cases r' <;> simp

end Go.Proofs.Ytkncnleibofkbaa.Pure
