/- The statement FnExactSameCredits over lists of whole numbers: the program and the reference hold the same credits for equal, and neither changes what it is given. Lists that are longer than the law's own bound are let by, as the law itself does. -/
import Derived.Test.YtkncnleibofkbaaPFnExactSameCreditsx2
import Derived.Test.YtkncnleibofkbaaXLists
namespace Go.Proofs.Ytkncnleibofkbaa.Pure
open Go.RowKit Go.Proofs.Ytkncnleibofkbaa.PFnExactSameCredits Go.Proofs.YtkncnleibofkbaaW.PrintWords Go.Proofs.YtkncnleibofkbaaW.PrintLast Go.Proofs.YtkncnleibofkbaaW.PrintMore Go.Proofs.YtkncnleibofkbaaX

theorem szIntS_eq (l : List Int) (left : Int) (h0 : 0 ≤ left) (h1 : left ≤ 1048576) (hl : l.length ≤ 9223372036854775807) : laws_szIntS.f l left = some (if left < l.length then -1 else left - l.length) := by
  unfold laws_szIntS.f
  rw [wrap_id _ (by omega)]
  by_cases h : left < l.length
  · rw [if_pos (by omega), if_pos h]
  · rw [if_neg (by omega), if_neg h]
/-- What is left behind a pair of credits: less than nothing, or the room that both take. -/
theorem szCredits_eq (a b : List Int) (left : Int) (h0 : 0 ≤ left) (h1 : left ≤ 1048576) (ha : a.length ≤ 9223372036854775807) (hb : b.length ≤ 9223372036854775807) :
    ∃ r, laws_szCredits.f a b left = some r ∧ (0 ≤ r → r = left - a.length - b.length) := by
  unfold laws_szCredits.f
  rw [szIntS_eq a left h0 h1 ha]
  simp only [Option.bind_some]
  by_cases hx : left < a.length
  · rw [if_pos hx, if_pos (by omega)]
    exact ⟨_, rfl, fun h => by omega⟩
  · rw [if_neg hx, if_neg (by omega), szIntS_eq b _ (by omega) (by omega) hb]
    simp only [Option.bind_some]
    by_cases hy : left - a.length < b.length
    · rw [if_pos hy, if_pos (by omega)]
      exact ⟨_, rfl, fun h => by omega⟩
    · rw [if_neg hy, if_neg (by omega)]
      exact ⟨_, rfl, fun _ => rfl⟩
theorem toIntS_l0 (l : List Int) (hb : l.length ≤ 1048576) (d : Nat) : ∀ (x : List Int) (i : Nat), x.length = l.length → x.take i = l.take i → i + d = l.length → ∀ k, d < k → laws_toIntS.l0 k l x (i : Int) = some l := by
  induction d with
  | zero =>
    intro x i hx ht hi k hk
    obtain ⟨k, rfl⟩ : ∃ m, k = m + 1 := ⟨k - 1, by omega⟩
    simp only [laws_toIntS.l0]
    rw [if_neg (show ¬ (i : Int) < (l.length : Int) by omega), fill_end x l i hx (by omega) ht]
  | succ d ih =>
    intro x i hx ht hi k hk
    obtain ⟨k, rfl⟩ : ∃ m, k = m + 1 := ⟨k - 1, by omega⟩
    simp only [laws_toIntS.l0]
    rw [if_pos (show (i : Int) < (l.length : Int) by omega), if_pos (show (0 : Int) ≤ (i : Int) by omega), if_pos (show (i : Int) < (x.length : Int) by omega), wrap_succ i (by omega), toNat_nat, rd_lt l i (by omega)]
    exact ih _ (i + 1) (by simp [hx]) (fill_step x l i _ (by omega) (by omega) ht rfl) (by omega) k (by omega)
theorem toIntS_ev (l : List Int) (hb : l.length ≤ 1048576) : ∀ k, l.length < k → laws_toIntS.f k l = some l := by
  intro k hk
  unfold laws_toIntS.f
  rw [if_pos (by omega), if_pos (by omega)]
  exact toIntS_l0 l hb l.length _ 0 (by simp) (by simp) (by omega) k hk
theorem eqIntS_l0 (a b : List Int) (hl : a.length = b.length) (hb : a.length < 9223372036854775807) (d : Nat) : ∀ (i : Nat), i + d = a.length → ∀ k, d < k → laws_eqIntS.l0 k a b (i : Int) = some (decide (a.drop i = b.drop i)) := by
  induction d with
  | zero =>
    intro i hi k hk
    obtain ⟨k, rfl⟩ : ∃ m, k = m + 1 := ⟨k - 1, by omega⟩
    simp only [laws_eqIntS.l0]
    rw [if_neg (show ¬ (i : Int) < (a.length : Int) by omega), drop_all a i (by omega), drop_all b i (by omega)]
    simp
  | succ d ih =>
    intro i hi k hk
    obtain ⟨k, rfl⟩ : ∃ m, k = m + 1 := ⟨k - 1, by omega⟩
    simp only [laws_eqIntS.l0]
    rw [if_pos (show (i : Int) < (a.length : Int) by omega), if_pos (show (0 : Int) ≤ (i : Int) by omega), if_pos (show (i : Int) < (b.length : Int) by omega)]
    by_cases he : rd a (i : Int) = rd b (i : Int)
    · rw [if_pos he, wrap_succ i (by omega), ih (i + 1) (by omega) k (by omega)]
      congr 1
      rw [decide_eq_decide, drop_eq_iff a b i (by omega) (by omega)]
      exact ⟨fun h => ⟨he, h⟩, fun h => h.2⟩
    · rw [if_neg he]
      congr 1
      symm
      rw [decide_eq_false_iff_not, drop_eq_iff a b i (by omega) (by omega)]
      exact fun h => he h.1
theorem eqIntS_ev (a b : List Int) (hb : a.length < 9223372036854775807) : ∀ k, a.length < k → laws_eqIntS.f k a b = some (decide (a = b)) := by
  intro k hk
  unfold laws_eqIntS.f
  by_cases hl : a.length = b.length
  · rw [if_pos (by omega)]
    exact eqIntS_l0 a b hl hb a.length 0 (by omega) k hk
  · rw [if_neg (by omega), decide_eq_false (fun h => hl (by rw [h]))]
theorem l04Ints_l0 (a b : List Int) (hl : a.length = b.length) (hb : a.length < 9223372036854775807) (d : Nat) : ∀ (i : Nat), i + d = a.length → ∀ k, d < k → spec_l04Ints.l0 k a b (i : Int) = some (decide (a.drop i = b.drop i)) := by
  induction d with
  | zero =>
    intro i hi k hk
    obtain ⟨k, rfl⟩ : ∃ m, k = m + 1 := ⟨k - 1, by omega⟩
    simp only [spec_l04Ints.l0]
    rw [if_neg (show ¬ (i : Int) < (a.length : Int) by omega), drop_all a i (by omega), drop_all b i (by omega)]
    simp
  | succ d ih =>
    intro i hi k hk
    obtain ⟨k, rfl⟩ : ∃ m, k = m + 1 := ⟨k - 1, by omega⟩
    simp only [spec_l04Ints.l0]
    rw [if_pos (show (i : Int) < (a.length : Int) by omega), if_pos (show (0 : Int) ≤ (i : Int) by omega), if_pos (show (i : Int) < (b.length : Int) by omega)]
    by_cases he : rd a (i : Int) = rd b (i : Int)
    · rw [if_pos he, wrap_succ i (by omega), ih (i + 1) (by omega) k (by omega)]
      congr 1
      rw [decide_eq_decide, drop_eq_iff a b i (by omega) (by omega)]
      exact ⟨fun h => ⟨he, h⟩, fun h => h.2⟩
    · rw [if_neg he]
      congr 1
      symm
      rw [decide_eq_false_iff_not, drop_eq_iff a b i (by omega) (by omega)]
      exact fun h => he h.1
theorem l04Ints_ev (a b : List Int) (hb : a.length < 9223372036854775807) : ∀ k, a.length < k → spec_l04Ints.f k a b = some (decide (a = b)) := by
  intro k hk
  unfold spec_l04Ints.f
  by_cases hl : a.length = b.length
  · rw [if_pos (by omega)]
    exact l04Ints_l0 a b hl hb a.length 0 (by omega) k hk
  · rw [if_neg (by omega), decide_eq_false (fun h => hl (by rw [h]))]
theorem equal_l0 (a b : List Int) (hl : a.length = b.length) (hb : a.length < 9223372036854775807) (d : Nat) : ∀ (i : Nat), i + d = a.length → ∀ k, d < k → slices_Equal_int_int.l0 k a b (((a.length : Nat) : Int)) (i : Int) = some (decide (a.drop i = b.drop i)) := by
  induction d with
  | zero =>
    intro i hi k hk
    obtain ⟨k, rfl⟩ : ∃ m, k = m + 1 := ⟨k - 1, by omega⟩
    simp only [slices_Equal_int_int.l0]
    rw [if_neg (show ¬ (i : Int) < (a.length : Int) by omega), drop_all a i (by omega), drop_all b i (by omega)]
    simp
  | succ d ih =>
    intro i hi k hk
    obtain ⟨k, rfl⟩ : ∃ m, k = m + 1 := ⟨k - 1, by omega⟩
    simp only [slices_Equal_int_int.l0]
    rw [if_pos (show (i : Int) < (a.length : Int) by omega), if_pos (show (0 : Int) ≤ (i : Int) by omega), if_pos (show (i : Int) < (a.length : Int) by omega), if_pos (show (i : Int) < (b.length : Int) by omega)]
    by_cases he : rd a (i : Int) = rd b (i : Int)
    · rw [if_pos he, wrap_succ i (by omega), ih (i + 1) (by omega) k (by omega)]
      congr 1
      rw [decide_eq_decide, drop_eq_iff a b i (by omega) (by omega)]
      exact ⟨fun h => ⟨he, h⟩, fun h => h.2⟩
    · rw [if_neg he]
      congr 1
      symm
      rw [decide_eq_false_iff_not, drop_eq_iff a b i (by omega) (by omega)]
      exact fun h => he h.1
theorem equal_ev (a b : List Int) (hb : a.length < 9223372036854775807) : ∀ k, a.length < k → slices_Equal_int_int.f k a b = some (decide (a = b)) := by
  intro k hk
  unfold slices_Equal_int_int.f
  by_cases hl : a.length = b.length
  · rw [if_pos (by omega)]
    exact equal_l0 a b hl hb a.length 0 (by omega) k hk
  · rw [if_neg (by omega), decide_eq_false (fun h => hl (by rw [h]))]

theorem toCredits_ev (a b : List Int) (ha : a.length ≤ 1048576) (hb : b.length ≤ 1048576) (k : Nat) (hk : 1048576 < k) : laws_toCredits.f k a b = some (a, b) := by
  unfold laws_toCredits.f
  rw [toIntS_ev a ha k (by omega), toIntS_ev b hb k (by omega)]
  rfl

theorem FnExactSameCredits : laws_FnExactSameCredits.Pure := by
  intro a b c d ⟨ha, _⟩ ⟨hb, _⟩ ⟨hc, _⟩ ⟨hd, _⟩
  obtain ⟨r, h1, hr⟩ := szCredits_eq a b 1048576 (by omega) (by omega) ha hb
  refine ⟨1048577, ?_⟩
  unfold laws_FnExactSameCredits.f
  rw [h1]
  simp only [Option.bind_some]
  by_cases h0 : r < 0
  · rw [if_pos h0]
  have hr := hr (by omega)
  rw [if_neg h0]
  obtain ⟨s, h2, hs⟩ := szCredits_eq c d r (by omega) (by omega) hc hd
  rw [h2]
  simp only [Option.bind_some]
  by_cases h3 : s < 0
  · rw [if_pos h3]
  have hs := hs (by omega)
  rw [if_neg h3, toCredits_ev a b (by omega) (by omega) _ (by omega), toCredits_ev c d (by omega) (by omega) _ (by omega)]
  unfold spec_SameCredits.f impl_SameCredits.f laws_eqCredits.f
  simp only [Option.bind_some, l04Ints_ev a c (by omega) 1048577 (by omega), l04Ints_ev b d (by omega) 1048577 (by omega), equal_ev a c (by omega) 1048577 (by omega), equal_ev b d (by omega) 1048577 (by omega),
    eqIntS_ev a a (by omega) 1048577 (by omega), eqIntS_ev b b (by omega) 1048577 (by omega), eqIntS_ev c c (by omega) 1048577 (by omega), eqIntS_ev d d (by omega) 1048577 (by omega)]
  by_cases e1 : a = c <;> by_cases e2 : b = d <;> simp [e1, e2]

end Go.Proofs.Ytkncnleibofkbaa.Pure
