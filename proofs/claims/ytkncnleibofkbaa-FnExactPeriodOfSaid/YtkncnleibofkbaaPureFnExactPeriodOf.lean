/- The statement FnExactPeriodOf over whole numbers: the program's PeriodOf and the reference's answer alike at every seed: outside 1..255 both answer 0, inside both answer 255, since the generator comes back to the seed at the 255th step and not before. -/
import Derived.Test.YtkncnleibofkbaaPFnExactPeriodOfx1
namespace Go.Proofs.Ytkncnleibofkbaa.Pure
open Go.RowKit Go.Proofs.Ytkncnleibofkbaa.PFnExactPeriodOf Go.Proofs.YtkncnleibofkbaaW.PrintWords Go.Proofs.YtkncnleibofkbaaW.PrintLast

/-- The generator's step, in plain numbers. -/
def nx (n : Nat) : Nat := 2 * n % 256 + (n / 128 + n / 32 + n / 16 + n / 8) % 2
theorem nx_table : ∀ n : Nat, n < 256 → 1 ≤ n → spec_NextState.f (n : Int) = some (nx n : Int) ∧ impl_NextState.f (n : Int) = some (nx n : Int) ∧ 1 ≤ nx n ∧ nx n < 256 := by decide +kernel
/-- From y the generator comes to x at the k-th step, and not before. -/
def run (x : Nat) : Nat → Nat → Bool
  | 0, y => y == x
  | k + 1, y => !(y == x) && run x k (nx y)
theorem run_table : ∀ x : Nat, x < 256 → 1 ≤ x → run x 254 (nx x) = true := by decide +kernel

theorem loops (x : Nat) (d : Nat) : ∀ (y c : Nat), 1 ≤ y → y < 256 → c + d ≤ 255 → run x d y = true →
    ∀ k, d < k → spec_PeriodOf.l0 k x y c = some ((c + d : Nat) : Int) ∧ impl_PeriodOf.l0 k x c y = some ((c + d : Nat) : Int) := by
  induction d with
  | zero =>
    intro y c hy1 hy2 hc hr k hk
    obtain ⟨k, rfl⟩ : ∃ m, k = m + 1 := ⟨k - 1, by omega⟩
    have hyx : (y : Int) = (x : Int) := by have := eq_of_beq hr; omega
    simp only [spec_PeriodOf.l0, impl_PeriodOf.l0]
    rw [if_pos hyx, if_pos hyx]
    exact ⟨rfl, rfl⟩
  | succ d ih =>
    intro y c hy1 hy2 hc hr k hk
    obtain ⟨k, rfl⟩ : ∃ m, k = m + 1 := ⟨k - 1, by omega⟩
    simp only [run, Bool.and_eq_true, Bool.not_eq_true', beq_eq_false_iff_ne] at hr
    obtain ⟨hne, hr⟩ := hr
    have hyx : ¬ (y : Int) = (x : Int) := by omega
    obtain ⟨hs, hi, h1, h2⟩ := nx_table y hy2 hy1
    have hw : wrap64 ((c : Int) + 1) = ((c + 1 : Nat) : Int) := by unfold wrap64; omega
    have hle : (c : Int) ≤ 1000 := by omega
    obtain ⟨e1, e2⟩ := ih (nx y) (c + 1) h1 h2 (by omega) hr k (by omega)
    have e : c + 1 + d = c + (d + 1) := by omega
    rw [e] at e1 e2
    simp only [spec_PeriodOf.l0, impl_PeriodOf.l0]
    rw [if_neg hyx, if_neg hyx, if_pos hle, hs, hi]
    simp only [Option.bind_some]
    rw [hw]
    exact ⟨e1, e2⟩

theorem FnExactPeriodOf : laws_FnExactPeriodOf.Pure := by
  intro a _
  by_cases h : 1 ≤ a ∧ a ≤ 255
  · obtain ⟨n, rfl⟩ := Int.eq_ofNat_of_zero_le (show 0 ≤ a by omega)
    have hn1 : 1 ≤ n := by omega
    have hn2 : n < 256 := by omega
    obtain ⟨hs, hi, h1, h2⟩ := nx_table n hn2 hn1
    obtain ⟨e1, e2⟩ := loops n 254 (nx n) 1 h1 h2 (by omega) (run_table n hn2 hn1) 255 (by omega)
    have r1 : spec_l01In.f (n : Int) 1 255 = some true := by
      unfold spec_l01In.f
      rw [if_pos (by omega), decide_eq_true (by omega)]
    have r2 : impl_isState.f (n : Int) = some true := by
      unfold impl_isState.f impl_within.f
      rw [if_pos (by omega), decide_eq_true (by omega)]
      rfl
    refine ⟨255, ?_⟩
    unfold laws_FnExactPeriodOf.f spec_PeriodOf.f impl_PeriodOf.f
    rw [r1, r2, hs, hi]
    simp only [Option.bind_some, if_true]
    have c1 : ((1 : Nat) : Int) = 1 := rfl
    rw [c1] at e1 e2
    rw [e1]
    simp only [Option.bind_some]
    rw [e2]
    simp only [Option.bind_some, if_true]
  · have hs : spec_l01In.f a 1 255 = some false := by
      unfold spec_l01In.f
      by_cases h1 : a ≥ 1
      · rw [if_pos h1, decide_eq_false (by omega)]
      · rw [if_neg h1]
    have hi : impl_isState.f a = some false := by
      unfold impl_isState.f impl_within.f
      by_cases h1 : a ≥ 1
      · rw [if_pos h1, decide_eq_false (by omega)]; rfl
      · rw [if_neg h1]; rfl
    refine ⟨1, ?_⟩
    unfold laws_FnExactPeriodOf.f spec_PeriodOf.f impl_PeriodOf.f
    rw [hs, hi]
    rfl

end Go.Proofs.Ytkncnleibofkbaa.Pure
