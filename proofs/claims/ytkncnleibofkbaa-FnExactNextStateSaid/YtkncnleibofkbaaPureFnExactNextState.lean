/- The statement FnExactNextState over whole numbers: the program's NextState and the reference's answer alike at every number: outside 1..255 both answer 1, inside each of the 255 numbers is reckoned. -/
import Derived.Test.YtkncnleibofkbaaPFnExactNextStatex1
namespace Go.Proofs.Ytkncnleibofkbaa.Pure
open Go.RowKit Go.Proofs.Ytkncnleibofkbaa.PFnExactNextState Go.Proofs.YtkncnleibofkbaaW.PrintWords Go.Proofs.YtkncnleibofkbaaW.PrintLast

theorem nextState_table : ∀ n : Nat, n < 256 → laws_FnExactNextState.f (n : Int) = some true := by decide +kernel

theorem FnExactNextState : laws_FnExactNextState.Pure := by
  intro a _
  by_cases h : 1 ≤ a ∧ a ≤ 255
  · obtain ⟨n, rfl⟩ := Int.eq_ofNat_of_zero_le (show 0 ≤ a by omega)
    exact nextState_table n (by omega)
  · have hs : spec_l01In.f a 1 255 = some false := by
      unfold spec_l01In.f
      by_cases h1 : a ≥ 1
      · rw [if_pos h1, decide_eq_false (by omega)]
      · rw [if_neg h1]
    have hi : impl_isState.f a = some false := by
      unfold impl_isState.f impl_within.f
      by_cases h1 : a ≥ 1
      · rw [if_pos h1, decide_eq_false (by omega)]; rfl
      · rw [if_neg h1]; rfl
    unfold laws_FnExactNextState.f spec_NextState.f impl_NextState.f
    rw [hs, hi]
    rfl

end Go.Proofs.Ytkncnleibofkbaa.Pure
