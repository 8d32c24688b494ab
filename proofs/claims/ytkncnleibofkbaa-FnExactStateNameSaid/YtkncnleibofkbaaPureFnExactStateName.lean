/- The statement FnExactStateName over whole numbers: the program and the reference give every state the same name, and no name to a number that is no state. -/
import Derived.Test.YtkncnleibofkbaaPFnExactStateNamex1
import Derived.Test.YtkncnleibofkbaaXLists
namespace Go.Proofs.Ytkncnleibofkbaa.Pure
open Go.RowKit Go.Proofs.Ytkncnleibofkbaa.PFnExactStateName Go.Proofs.YtkncnleibofkbaaW.PrintWords Go.Proofs.YtkncnleibofkbaaW.PrintLast Go.Proofs.YtkncnleibofkbaaW.PrintMore Go.Proofs.YtkncnleibofkbaaX

theorem name_table : ∀ n : Nat, n < 6 → laws_FnExactStateName.f (n : Int) = some true := by decide +kernel

theorem FnExactStateName : laws_FnExactStateName.Pure := by
  intro a _
  by_cases h : 0 ≤ a ∧ a ≤ 5
  · obtain ⟨n, rfl⟩ := Int.eq_ofNat_of_zero_le h.1
    exact name_table n (by omega)
  · have hs : spec_l01In.f a 0 5 = some false := by
      unfold spec_l01In.f
      by_cases h1 : a ≥ 0
      · rw [if_pos h1, decide_eq_false (by omega)]
      · rw [if_neg h1]
    unfold laws_FnExactStateName.f spec_StateName.f impl_StateName.f
    rw [hs, if_neg (by omega), if_neg (by omega), if_neg (by omega), if_neg (by omega), if_neg (by omega), if_neg (by omega)]
    simp

end Go.Proofs.Ytkncnleibofkbaa.Pure
