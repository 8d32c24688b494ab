/- The statement FnExactStateAfter over whole numbers: the program's StateAfter and the reference's answer alike at every seed and every count: both refuse the same arguments, and step by step both generators hold the same state. -/
import Derived.Test.YtkncnleibofkbaaPFnExactStateAfterx1
namespace Go.Proofs.Ytkncnleibofkbaa.Pure
open Go.RowKit Go.Proofs.Ytkncnleibofkbaa.PFnExactStateAfter Go.Proofs.YtkncnleibofkbaaW.PrintWords Go.Proofs.YtkncnleibofkbaaW.PrintLast

theorem step_table : ∀ n : Nat, n < 256 → 1 ≤ n → (∃ m : Fin 256, 1 ≤ m.val ∧ spec_NextState.f (n : Int) = some (m.val : Int) ∧ impl_NextState.f (n : Int) = some (m.val : Int)) := by decide +kernel

theorem step_same (x : Int) (h : 1 ≤ x ∧ x ≤ 255) : ∃ y, 1 ≤ y ∧ y ≤ 255 ∧ spec_NextState.f x = some y ∧ impl_NextState.f x = some y := by
  obtain ⟨n, rfl⟩ := Int.eq_ofNat_of_zero_le (show 0 ≤ x by omega)
  obtain ⟨m, h1, h2, h3⟩ := step_table n (by omega) (by omega)
  exact ⟨m.val, by omega, by omega, h2, h3⟩

theorem in_range (a l m : Int) : spec_l01In.f a l m = some (decide (l ≤ a ∧ a ≤ m)) ∧ impl_within.f a l m = some (decide (l ≤ a ∧ a ≤ m)) := by
  unfold spec_l01In.f impl_within.f
  by_cases h : a ≥ l
  · rw [if_pos h]; have h' : l ≤ a := h; simp [h']
  · rw [if_neg h]; have h' : ¬ l ≤ a := h; simp [h']

theorem loops (n : Int) (hn : n ≤ 1000) (d : Nat) : ∀ (x i : Int), 1 ≤ x ∧ x ≤ 255 → 0 ≤ i → i ≤ n → n - i = d →
    ∃ r, ∀ k, d < k → spec_StateAfter.l0 k n x i = some r ∧ impl_StateAfter.l0 k x n i = some r := by
  induction d with
  | zero =>
    intro x i hx h0 h1 hd
    refine ⟨x, fun k hk => ?_⟩
    obtain ⟨k, rfl⟩ : ∃ m, k = m + 1 := ⟨k - 1, by omega⟩
    simp only [spec_StateAfter.l0, impl_StateAfter.l0]
    have hlt : ¬ i < n := by omega
    rw [if_neg hlt, if_neg hlt]
    exact ⟨rfl, rfl⟩
  | succ d ih =>
    intro x i hx h0 h1 hd
    obtain ⟨y, hy1, hy2, hs, hi⟩ := step_same x hx
    obtain ⟨r, hr⟩ := ih y (i + 1) ⟨hy1, hy2⟩ (by omega) (by omega) (by omega)
    refine ⟨r, fun k hk => ?_⟩
    obtain ⟨k, rfl⟩ : ∃ m, k = m + 1 := ⟨k - 1, by omega⟩
    have hw : wrap64 (i + 1) = i + 1 := by unfold wrap64; omega
    simp only [spec_StateAfter.l0, impl_StateAfter.l0]
    have hlt : i < n := by omega
    rw [if_pos hlt, if_pos hlt, hs, hi]
    simp only [Option.bind_some]
    rw [hw]
    exact hr k (by omega)

theorem FnExactStateAfter : laws_FnExactStateAfter.Pure := by
  intro a n _ _
  by_cases ha : 1 ≤ a ∧ a ≤ 255
  · by_cases hn : 0 ≤ n ∧ n ≤ 1000
    · obtain ⟨r, hr⟩ := loops n hn.2 n.toNat a 0 ha (by omega) (by omega) (by omega)
      obtain ⟨h1, h2⟩ := hr (n.toNat + 1) (by omega)
      refine ⟨n.toNat + 2, ?_⟩
      unfold laws_FnExactStateAfter.f spec_StateAfter.f impl_StateAfter.f impl_isState.f
      rw [(in_range a 1 255).1, (in_range a 1 255).2, (in_range n 0 1000).1, (in_range n 0 1000).2, decide_eq_true ha, decide_eq_true hn]
      simp only [Option.bind_some, if_true, Bool.not_true, spec_StateAfter.j0, impl_StateAfter.j0]
      rw [if_neg (by decide), h1]
      simp only [Option.bind_some]
      rw [if_neg (by decide), h2]
      simp only [Option.bind_some, if_true]
    · refine ⟨1, ?_⟩
      unfold laws_FnExactStateAfter.f spec_StateAfter.f impl_StateAfter.f impl_isState.f
      rw [(in_range a 1 255).1, (in_range a 1 255).2, (in_range n 0 1000).1, (in_range n 0 1000).2, decide_eq_true ha, decide_eq_false hn]
      rfl
  · refine ⟨1, ?_⟩
    unfold laws_FnExactStateAfter.f spec_StateAfter.f impl_StateAfter.f impl_isState.f
    rw [(in_range a 1 255).1, (in_range a 1 255).2, decide_eq_false ha]
    rfl

end Go.Proofs.Ytkncnleibofkbaa.Pure
