/- The statement FnExactIsWidth over whole numbers: the program's IsWidth and the reference's answer alike at every number, so the law answers true. No condition is set beyond the kind of the number. -/
import Derived.Test.YtkncnleibofkbaaPFnExactIsWidthx1
namespace Go.Proofs.Ytkncnleibofkbaa.Pure
open Go.RowKit Go.Proofs.Ytkncnleibofkbaa.PFnExactIsWidth Go.Proofs.YtkncnleibofkbaaW.PrintWords Go.Proofs.YtkncnleibofkbaaW.PrintLast

theorem FnExactIsWidth : laws_FnExactIsWidth.Pure := by
  intro a _
  unfold laws_FnExactIsWidth.f spec_IsWidth.f impl_IsWidth.f
  by_cases h1 : a = 1
  · subst h1; rfl
  by_cases h2 : a = 2
  · subst h2; rfl
  rw [if_neg h1, if_neg h2]
  simp

end Go.Proofs.Ytkncnleibofkbaa.Pure
